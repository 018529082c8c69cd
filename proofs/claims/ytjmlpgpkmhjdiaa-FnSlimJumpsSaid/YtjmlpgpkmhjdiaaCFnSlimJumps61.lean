import Derived.Test.YtjmlpgpkmhjdiaaCFnSlimJumps21
namespace Go.Proofs.Ytjmlpgpkmhjdiaa.GSlim
open Go.RowKit Go.Proofs.YtjmlpgpkmhjdiaaW.PrintWords Go.Proofs.YtjmlpgpkmhjdiaaW.PrintLast Go.Proofs.YtjmlpgpkmhjdiaaW.PrintMore
attribute [local go_sem] Zn Zp Ua Ub Zh Zi Zo Zq
set_option linter.unusedVariables false
set_option linter.unusedSimpArgs false
mutual
def Zd.j0:Nat→Int→Bool→Int→Int→Int→Int→List (S82)→List (S82)→Option ((List (S47)))
 |0,_,_,_,_,_,_,_,_=>none
 |k+1,x12,x94,x588000,x588001,x588002,x588003,x588004,x588005=>if x94=true then (some (([(⟨x588000,x588001,x588002,x588003⟩:S47)]:List (S47)))) else (if x12=9 then (some (([(⟨10,x588001,0,0⟩:S47)]:List (S47)))) else (if x12=10 then (some (([(⟨11,x588001,0,0⟩:S47)]:List (S47)))) else (some (([(⟨12,0,0,0⟩:S47)]:List (S47))))))
def Zd.f:Nat→Int→Int→Int→Int→List (S82)→List (S82)→Int→Option ((List (S47)))
 |0,_,_,_,_,_,_,_=>none
 |k+1,a0_0,a0_1,a0_2,a0_3,l0_4,l0_5,a1=>if a0_0=6 then ((Zj.f k l0_4 (wrap64 (a1+1))).bind fun t588=>((Zj.f k l0_5 (wrap64 ((wrap64 (a1+2))+(t588.length:Int)))).bind fun t591=>((some (([(⟨6,a0_1,0,wrap64 ((wrap64 (a1+2))+(t588.length:Int))⟩:S47)]:List (S47)):List (S47))).bind fun y594=>(if y594.length+t588.length<4398046511104 then ((some (y594 ++ t588:List (S47))).bind fun y597=>((some (([(⟨7,0,0,wrap64 ((wrap64 ((wrap64 (a1+2))+(t588.length:Int)))+(t591.length:Int))⟩:S47)]:List (S47)):List (S47))).bind fun y600=>(if y597.length+y600.length<4398046511104 then ((some (y597 ++ y600:List (S47))).bind fun y603=>(if y603.length+t591.length<4398046511104 then (some (y603 ++ t591)) else (none))) else (none)))) else (none))))) else (if a0_0=7 then ((Zj.f k l0_4 (wrap64 (a1+1))).bind fun t609=>((some (([(⟨6,a0_1,0,wrap64 ((wrap64 (a1+2))+(t609.length:Int))⟩:S47)]:List (S47)):List (S47))).bind fun y612=>(if y612.length+t609.length<4398046511104 then ((some (y612 ++ t609:List (S47))).bind fun y615=>((some (([(⟨7,0,0,a1⟩:S47)]:List (S47)):List (S47))).bind fun y618=>(if y615.length+y618.length<4398046511104 then (some (y615 ++ y618)) else (none)))) else (none)))) else (if a0_0=8 then ((Zj.f k l0_4 (wrap64 (a1+1))).bind fun t624=>((some (([(⟨8,a0_1,0,0⟩:S47)]:List (S47)):List (S47))).bind fun y627=>(if y627.length+t624.length<4398046511104 then ((some (y627 ++ t624:List (S47))).bind fun y630=>((some (([(⟨9,a0_1,0,0⟩:S47)]:List (S47)):List (S47))).bind fun y633=>(if y630.length+y633.length<4398046511104 then (some (y630 ++ y633)) else (none)))) else (none)))) else (if a0_0=1 then (Zd.j0 k a0_0 (a0_0 == 1) a0_0 a0_1 a0_2 a0_3 l0_4 l0_5) else (if a0_0=2 then (Zd.j0 k a0_0 (a0_0 == 2) a0_0 a0_1 a0_2 a0_3 l0_4 l0_5) else (if a0_0=3 then (Zd.j0 k a0_0 (a0_0 == 3) a0_0 a0_1 a0_2 a0_3 l0_4 l0_5) else (if a0_0=4 then (Zd.j0 k a0_0 (a0_0 == 4) a0_0 a0_1 a0_2 a0_3 l0_4 l0_5) else (Zd.j0 k a0_0 (a0_0 == 5) a0_0 a0_1 a0_2 a0_3 l0_4 l0_5)))))))
def Zj.l0:Nat→List (S82)→Int→List (S47)→Int→Option ((List (S47)))
 |0,_,_,_,_=>none
 |k+1,x0,x1,x5,x6=>if x6<(x0.length:Int) then (if 0≤x6 then ((Zd.f k ((Yx x0 x6).f0) ((Yx x0 x6).f1) ((Yx x0 x6).f2) ((Yx x0 x6).f3) ((Yx x0 x6).f4) ((Yx x0 x6).f5) (wrap64 (x1+(x5.length:Int)))).bind fun t655=>(if x5.length+t655.length<4398046511104 then (Zj.l0 k x0 x1 (x5 ++ t655) (wrap64 (x6+1))) else (none))) else (none)) else (some x5)
def Zj.f:Nat→List (S82)→Int→Option ((List (S47)))
 |0,_,_=>none
 |k+1,l0,a1=>Zj.l0 k l0 a1 (([]:List (S47))) 0
end
def Zd.T13:Bool × List (List Nat × List Nat):=(true,[([],[]),([0],[0]),([1],[1]),([2],[2]),([],[]),([3,4],[3,4]),([],[]),([6],[6]),([7],[7]),([8],[8]),([5,9,5],[5,9]),([10,10,0,1,2,3,4,5,6,7,8,9,10],[10])])
def Zd.B13:List Nat:=[0,1,3,7,0,31,0,64,192,448,1023,2047]
theorem Zd.tab13:rtab .any (opsOf Try.f96 13)=Zd.T13:=by kernel_rfl
theorem Zd.bits13:waitsOk Zd.T13.2 Zd.B13=true:=by kernel_rfl
set_option maxHeartbeats 8000000 in
set_option maxRecDepth 100000 in
theorem Zd.step (k:Nat) (ih:∀ m_,m_<k→∀ (a0_0:Int) (a0_1:Int) (a0_2:Int) (a0_3:Int) (A0_4:Option Addr) (c0_4:Nat) (l0_4:List (S82)) (A0_5:Option Addr) (c0_5:Nat) (l0_5:List (S82)) (a1:Int) (r:List (S47)) (w:World) (hr0_4:Kd.C k82 w A0_4 l0_4.length l0_4) (hc0_4:l0_4.length≤c0_4) (hr0_5:Kd.C k82 w A0_5 l0_5.length l0_5) (hc0_5:l0_5.length≤c0_5) (h:Zd.f m_ a0_0 a0_1 a0_2 a0_3 l0_4 l0_5 a1=some r),
  Calls Try.prog 96 #[.agg #[.int .i64 a0_0,.int .i64 a0_1,.int .i64 a0_2,.int .i64 a0_3,.slice A0_4 l0_4.length c0_4,.slice A0_5 l0_5.length c0_5],.int .i64 a1] w fun e w'=>∃ v0_:Value,e=.returned (v0_)∧Kd.R k47 47 w' w.heap.size (fun _=>True) v0_ r∧Below w.heap.size w w') (ih_spec_l4Of:∀ m_,m_<k→∀ (A0:Option Addr) (c0:Nat) (l0:List (S82)) (a1:Int) (r:List (S47)) (w:World) (hr0:Kd.C k82 w A0 l0.length l0) (hc0:l0.length≤c0) (h:Zj.f m_ l0 a1=some r),
  Calls Try.prog 84 #[.slice A0 l0.length c0,.int .i64 a1] w fun e w'=>∃ v0_:Value,e=.returned (v0_)∧Kd.R k47 47 w' w.heap.size (fun _=>True) v0_ r∧Below w.heap.size w w'):∀ (a0_0:Int) (a0_1:Int) (a0_2:Int) (a0_3:Int) (A0_4:Option Addr) (c0_4:Nat) (l0_4:List (S82)) (A0_5:Option Addr) (c0_5:Nat) (l0_5:List (S82)) (a1:Int) (r:List (S47)) (w:World) (hr0_4:Kd.C k82 w A0_4 l0_4.length l0_4) (hc0_4:l0_4.length≤c0_4) (hr0_5:Kd.C k82 w A0_5 l0_5.length l0_5) (hc0_5:l0_5.length≤c0_5) (h:Zd.f k a0_0 a0_1 a0_2 a0_3 l0_4 l0_5 a1=some r),
  Calls Try.prog 96 #[.agg #[.int .i64 a0_0,.int .i64 a0_1,.int .i64 a0_2,.int .i64 a0_3,.slice A0_4 l0_4.length c0_4,.slice A0_5 l0_5.length c0_5],.int .i64 a1] w fun e w'=>∃ v0_:Value,e=.returned (v0_)∧Kd.R k47 47 w' w.heap.size (fun _=>True) v0_ r∧Below w.heap.size w w':=by
 intro a0_0 a0_1 a0_2 a0_3 A0_4 c0_4 l0_4 A0_5 c0_5 l0_5 a1 r w hr0_4 hc0_4 hr0_5 hc0_5 h
 cases k with
 |zero=>exact absurd h (by simp [Zd.f])
 |succ k=>
 simp only [Zd.f] at h;have hu82:=Try.underlying82;have hu47:=Try.underlying47;have HR0_4:=Xa.mk hr0_4;have HC0_4:=Xa.mk hc0_4;clear hr0_4 hc0_4;have HR0_5:=Xa.mk hr0_5;have HC0_5:=Xa.mk hc0_5;clear hr0_5 hc0_5;have HB:=Xa.mk (Below.refl w.heap.size w);have H:(if a0_0=6 then ((Zj.f k l0_4 (wrap64 (a1+1))).bind fun t588=>((Zj.f k l0_5 (wrap64 ((wrap64 (a1+2))+(t588.length:Int)))).bind fun t591=>((some (([(⟨6,a0_1,0,wrap64 ((wrap64 (a1+2))+(t588.length:Int))⟩:S47)]:List (S47)):List (S47))).bind fun y594=>(if y594.length+t588.length<4398046511104 then ((some (y594 ++ t588:List (S47))).bind fun y597=>((some (([(⟨7,0,0,wrap64 ((wrap64 ((wrap64 (a1+2))+(t588.length:Int)))+(t591.length:Int))⟩:S47)]:List (S47)):List (S47))).bind fun y600=>(if y597.length+y600.length<4398046511104 then ((some (y597 ++ y600:List (S47))).bind fun y603=>(if y603.length+t591.length<4398046511104 then (some (y603 ++ t591)) else (none))) else (none)))) else (none))))) else (if a0_0=7 then ((Zj.f k l0_4 (wrap64 (a1+1))).bind fun t609=>((some (([(⟨6,a0_1,0,wrap64 ((wrap64 (a1+2))+(t609.length:Int))⟩:S47)]:List (S47)):List (S47))).bind fun y612=>(if y612.length+t609.length<4398046511104 then ((some (y612 ++ t609:List (S47))).bind fun y615=>((some (([(⟨7,0,0,a1⟩:S47)]:List (S47)):List (S47))).bind fun y618=>(if y615.length+y618.length<4398046511104 then (some (y615 ++ y618)) else (none)))) else (none)))) else (if a0_0=8 then ((Zj.f k l0_4 (wrap64 (a1+1))).bind fun t624=>((some (([(⟨8,a0_1,0,0⟩:S47)]:List (S47)):List (S47))).bind fun y627=>(if y627.length+t624.length<4398046511104 then ((some (y627 ++ t624:List (S47))).bind fun y630=>((some (([(⟨9,a0_1,0,0⟩:S47)]:List (S47)):List (S47))).bind fun y633=>(if y630.length+y633.length<4398046511104 then (some (y630 ++ y633)) else (none)))) else (none)))) else (if a0_0=1 then (Zd.j0 k a0_0 (a0_0 == 1) a0_0 a0_1 a0_2 a0_3 l0_4 l0_5) else (if a0_0=2 then (Zd.j0 k a0_0 (a0_0 == 2) a0_0 a0_1 a0_2 a0_3 l0_4 l0_5) else (if a0_0=3 then (Zd.j0 k a0_0 (a0_0 == 3) a0_0 a0_1 a0_2 a0_3 l0_4 l0_5) else (if a0_0=4 then (Zd.j0 k a0_0 (a0_0 == 4) a0_0 a0_1 a0_2 a0_3 l0_4 l0_5) else (Zd.j0 k a0_0 (a0_0 == 5) a0_0 a0_1 a0_2 a0_3 l0_4 l0_5))))))))=some r:=h;clear h;by_cases c3:a0_0=6
 ·rw [if_pos c3] at H;have c3b0:(a0_0 == 6)=true:=beq_iff_eq.mpr c3;have c3b1:(a0_0 != 6)=false:=bne_eq_false_iff_eq.mpr c3;clear c3;replace H:=Option.bind_eq_some_iff.mp H;obtain ⟨t588,A40,H⟩:=H;replace H:((Zj.f k l0_5 (wrap64 ((wrap64 (a1+2))+(t588.length:Int)))).bind fun t591=>((some (([(⟨6,a0_1,0,wrap64 ((wrap64 (a1+2))+(t588.length:Int))⟩:S47)]:List (S47)):List (S47))).bind fun y594=>(if y594.length+t588.length<4398046511104 then ((some (y594 ++ t588:List (S47))).bind fun y597=>((some (([(⟨7,0,0,wrap64 ((wrap64 ((wrap64 (a1+2))+(t588.length:Int)))+(t591.length:Int))⟩:S47)]:List (S47)):List (S47))).bind fun y600=>(if y597.length+y600.length<4398046511104 then ((some (y597 ++ y600:List (S47))).bind fun y603=>(if y603.length+t591.length<4398046511104 then (some (y603 ++ t591)) else (none))) else (none)))) else (none))))=some r:=H;have A4:=Xa.mk A40;clear A40;replace H:=Option.bind_eq_some_iff.mp H;obtain ⟨t591,A50,H⟩:=H;replace H:((some (([(⟨6,a0_1,0,wrap64 ((wrap64 (a1+2))+(t588.length:Int))⟩:S47)]:List (S47)):List (S47))).bind fun y594=>(if y594.length+t588.length<4398046511104 then ((some (y594 ++ t588:List (S47))).bind fun y597=>((some (([(⟨7,0,0,wrap64 ((wrap64 ((wrap64 (a1+2))+(t588.length:Int)))+(t591.length:Int))⟩:S47)]:List (S47)):List (S47))).bind fun y600=>(if y597.length+y600.length<4398046511104 then ((some (y597 ++ y600:List (S47))).bind fun y603=>(if y603.length+t591.length<4398046511104 then (some (y603 ++ t591)) else (none))) else (none)))) else (none)))=some r:=H;have A5:=Xa.mk A50;clear A50;obtain ⟨y594,hy594⟩:∃ y_:List (S47),y_=(([(⟨6,a0_1,0,wrap64 ((wrap64 (a1+2))+(t588.length:Int))⟩:S47)]:List (S47))):=⟨_,rfl⟩
  replace H:(if y594.length+t588.length<4398046511104 then ((some (y594 ++ t588:List (S47))).bind fun y597=>((some (([(⟨7,0,0,wrap64 ((wrap64 ((wrap64 (a1+2))+(t588.length:Int)))+(t591.length:Int))⟩:S47)]:List (S47)):List (S47))).bind fun y600=>(if y597.length+y600.length<4398046511104 then ((some (y597 ++ y600:List (S47))).bind fun y603=>(if y603.length+t591.length<4398046511104 then (some (y603 ++ t591)) else (none))) else (none)))) else (none))=some r:=by subst hy594;first|with_reducible exact H|(have z:=(Option.bind_some _ _).symm.trans H;with_reducible exact z)|exact H
  have Ny594:=Xa.mk hy594;clear hy594;by_cases c6:y594.length+t588.length<4398046511104
  ·rw [if_pos c6] at H;have LMc6:=Xa.mk c6;clear c6;obtain ⟨y597,hy597⟩:∃ y_:List (S47),y_=(y594 ++ t588):=⟨_,rfl⟩
   replace H:((some (([(⟨7,0,0,wrap64 ((wrap64 ((wrap64 (a1+2))+(t588.length:Int)))+(t591.length:Int))⟩:S47)]:List (S47)):List (S47))).bind fun y600=>(if y597.length+y600.length<4398046511104 then ((some (y597 ++ y600:List (S47))).bind fun y603=>(if y603.length+t591.length<4398046511104 then (some (y603 ++ t591)) else (none))) else (none)))=some r:=by subst hy597;first|with_reducible exact H|(have z:=(Option.bind_some _ _).symm.trans H;with_reducible exact z)|exact H
   have Ny597:=Xa.mk hy597;clear hy597;obtain ⟨y600,hy600⟩:∃ y_:List (S47),y_=(([(⟨7,0,0,wrap64 ((wrap64 ((wrap64 (a1+2))+(t588.length:Int)))+(t591.length:Int))⟩:S47)]:List (S47))):=⟨_,rfl⟩
   replace H:(if y597.length+y600.length<4398046511104 then ((some (y597 ++ y600:List (S47))).bind fun y603=>(if y603.length+t591.length<4398046511104 then (some (y603 ++ t591)) else (none))) else (none))=some r:=by subst hy600;first|with_reducible exact H|(have z:=(Option.bind_some _ _).symm.trans H;with_reducible exact z)|exact H
   have Ny600:=Xa.mk hy600;clear hy600;by_cases c7:y597.length+y600.length<4398046511104
   ·rw [if_pos c7] at H;have LMc7:=Xa.mk c7;clear c7;obtain ⟨y603,hy603⟩:∃ y_:List (S47),y_=(y597 ++ y600):=⟨_,rfl⟩
    replace H:(if y603.length+t591.length<4398046511104 then (some (y603 ++ t591)) else (none))=some r:=by subst hy603;first|with_reducible exact H|(have z:=(Option.bind_some _ _).symm.trans H;with_reducible exact z)|exact H
    have Ny603:=Xa.mk hy603;clear hy603;by_cases c8:y603.length+t591.length<4398046511104
    ·rw [if_pos c8] at H;have LMc8:=Xa.mk c8;clear c8;obtain ⟨y606,hy606⟩:∃ y_:List (S47),y_=(y603 ++ t591):=⟨_,rfl⟩
     replace H:(some y606)=some r:=by subst hy606;first|with_reducible exact H|(have z:=(Option.bind_some _ _).symm.trans H;with_reducible exact z)|exact H
     have Ny606:=Xa.mk hy606;clear hy606;obtain rfl:=Option.some.inj H
     go_enter Try.func96,Try.ntmps96
     go_wp2_with (first|((with_reducible refine Yc (N:=2) rfl ?_);refine Yv ?hg (N:=2) ?hd (cs:=#[.int .i64 a0_0,.int .i64 a0_1,.int .i64 a0_2,.int .i64 a0_3,.slice A0_4 l0_4.length c0_4,.slice A0_5 l0_5.length c0_5]) (t:=82) ?hr ?_;(case hd=>rfl);(case hg=>rfl);(case hr=>first|(go_simp;done)|(go_simp;rfl));intro gb587 hg w9 hbox hb;have n0_:=Xa.mk (Xc (bl_ HB) hb);have n1_:=Xa.mk (hbox);have n2_:=Xa.mk ((by rw [hg];exact (Xd (bl_ HB)):w.heap.size≤gb587));have n3_:=Xa.mk ((by rw [hg];exact (Xd (bl_ HB)):w.heap.size≤gb587));clear HB;have HB:=n0_;have BK587:=n1_;have GW587:=n2_;have GE587:=n3_;clear n0_ n1_ n2_ n3_;clear hb hbox hg;obtain ⟨hcz10_0,hcz10_1,hcz10_2,hcz10_3,hcz10_4,hcz10_5⟩:=Ut BK587.out;obtain ⟨hfz10_0,hfz10_1,hfz10_2,hfz10_3,hfz10_4,hfz10_5⟩:=Uu BK587.out)|((with_reducible refine Xo (f:=84) rfl ?_);refine Yz (some 19) rfl rfl Try.func84 (by kernel_rfl) rfl #[.slice A0_4 l0_4.length c0_4,.int .i64 (wrap64 (a1+1))] rfl ga_ ?_;(with_reducible refine (ih_spec_l4Of k (by omega) _ _ l0_4 (wrap64 (a1+1)) t588 _ ?side1 ?side2 A4.out).mono ?_);(case side1=>repeat (first|exact (Kd.Zt HR0_4.out HB.out)|(with_reducible refine Kd.Xm ?_ _)|(with_reducible refine Kd.Xn ?_ _)|(with_reducible refine Kd.Xv ?_)));(case side2=>exact HC0_4.out);rintro e w11 ⟨v589,rfl,ho0,hb⟩;refine ⟨_,rfl,?_⟩;have n0_:=Xa.mk (Kd.Ye ho0 (Xd (bl_ HB)));have n1_:=Xa.mk (Zv (g:=gb587) (o:=.cells #[.int .i64 a0_0,.int .i64 a0_1,.int .i64 a0_2,.int .i64 a0_3,.slice A0_4 l0_4.length c0_4,.slice A0_5 l0_5.length c0_5] 82 (0,0)) (ba_ BK587) hb);have n2_:=Xa.mk (Xc (bl_ HB) hb);clear BK587;clear HB;have HO590:=n0_;have BK587:=n1_;have HB:=n2_;clear n0_ n1_ n2_;(try clear hb);(try clear hb2);(try clear hk);(try clear hi);(try clear ho0);obtain ⟨hcz12_0,hcz12_1,hcz12_2,hcz12_3,hcz12_4,hcz12_5⟩:=Ut BK587.out;obtain ⟨hfz12_0,hfz12_1,hfz12_2,hfz12_3,hfz12_4,hfz12_5⟩:=Uu BK587.out;obtain ⟨Ao13,co13,eo13⟩:=Kd.Yo HO590.out;subst eo13)|((with_reducible refine Xo (f:=84) rfl ?_);refine Yz (some 27) rfl rfl Try.func84 (by kernel_rfl) rfl #[.slice A0_5 l0_5.length c0_5,.int .i64 (wrap64 ((wrap64 (a1+2))+(t588.length:Int)))] rfl ga_ ?_;(with_reducible refine (ih_spec_l4Of k (by omega) _ _ l0_5 (wrap64 ((wrap64 (a1+2))+(t588.length:Int))) t591 _ ?side1 ?side2 A5.out).mono ?_);(case side1=>repeat (first|exact (Kd.Zt HR0_5.out HB.out)|(with_reducible refine Kd.Xm ?_ _)|(with_reducible refine Kd.Xn ?_ _)|(with_reducible refine Kd.Xv ?_)));(case side2=>exact HC0_5.out);rintro e w14 ⟨v592,rfl,ho0,hb⟩;refine ⟨_,rfl,?_⟩;have n0_:=Xa.mk (Kd.R_elder' (Kd.ra_ (HO590.out)) (Kd.Yr ho0) hb);have n1_:=Xa.mk (Kd.Ye (Kd.R_new' ho0 (Kd.Zx (Kd.ra_ (HO590.out)))) (Xd (bl_ HB)));have n2_:=Xa.mk (Zv (g:=gb587) (o:=.cells #[.int .i64 a0_0,.int .i64 a0_1,.int .i64 a0_2,.int .i64 a0_3,.slice A0_4 l0_4.length c0_4,.slice A0_5 l0_5.length c0_5] 82 (0,0)) (ba_ BK587) hb);have n3_:=Xa.mk (Xc (bl_ HB) hb);clear HO590;clear BK587;clear HB;have HO590:=n0_;have HO593:=n1_;have BK587:=n2_;have HB:=n3_;clear n0_ n1_ n2_ n3_;(try clear hb);(try clear hb2);(try clear hk);(try clear hi);(try clear ho0);obtain ⟨hcz15_0,hcz15_1,hcz15_2,hcz15_3,hcz15_4,hcz15_5⟩:=Ut BK587.out;obtain ⟨hfz15_0,hfz15_1,hfz15_2,hfz15_3,hfz15_4,hfz15_5⟩:=Uu BK587.out)|((with_reducible refine Yc (N:=36) rfl ?_);refine Kd.R_lit k47 _ 47 ?hg (N:=36) ?hd (xs:=([(⟨6,a0_1,0,wrap64 ((wrap64 (a1+2))+(t588.length:Int))⟩:S47)]:List (S47))) (inner:=[.int .i64 6,.int .i64 a0_1,.int .i64 0,.int .i64 (wrap64 ((wrap64 (a1+2))+(t588.length:Int)))]) (ok:=fun _=>True) (okp:=fun _=>True) ?hr ?hp (fun _ hk=>hk) trivial (Below.refl _ _) (Nat.le_refl _) (by simp) ?_;(case hd=>rfl);(case hg=>rfl);(case hr=>first|(go_simp;done)|(go_simp;rfl));(case hp=>exact (Yn.c4 (show Kd.M k47 _ _ _ (⟨6,a0_1,0,wrap64 ((wrap64 (a1+2))+(t588.length:Int))⟩:S47) [.int .i64 6,.int .i64 a0_1,.int .i64 0,.int .i64 (wrap64 ((wrap64 (a1+2))+(t588.length:Int)))] from (Us _ _ _ (⟨6,a0_1,0,wrap64 ((wrap64 (a1+2))+(t588.length:Int))⟩:S47) )) (Yn.none _ _)));intro v595 w16 ho17 hb hg_ hnew_;clear hg_ hnew_;(first|rw [← Ny594.out] at ho17|(simp only [Int.reduceToNat] at ho17;rw [← Ny594.out] at ho17));have n0_:=Xa.mk (Kd.R_elder' (Kd.ra_ (HO590.out)) (Kd.Yr ho17) hb);have n1_:=Xa.mk (Kd.R_elder' (Kd.ra_ (HO593.out)) (Kd.Yr ho17) hb);have n2_:=Xa.mk (Kd.Ye (Kd.R_new' (Kd.R_new' ho17 (Kd.Zx (Kd.ra_ (HO590.out)))) (Kd.Zx (Kd.ra_ (HO593.out)))) (Xd (bl_ HB)));have n3_:=Xa.mk (Zv (g:=gb587) (o:=.cells #[.int .i64 a0_0,.int .i64 a0_1,.int .i64 a0_2,.int .i64 a0_3,.slice A0_4 l0_4.length c0_4,.slice A0_5 l0_5.length c0_5] 82 (0,0)) (ba_ BK587) hb);have n4_:=Xa.mk (Xc (bl_ HB) hb);clear HO590;clear HO593;clear BK587;clear HB;have HO590:=n0_;have HO593:=n1_;have HO596:=n2_;have BK587:=n3_;have HB:=n4_;clear n0_ n1_ n2_ n3_ n4_;clear hb ho17)|((with_reducible refine Zk (b:=.append) (xs:=#[.tmp 36,.tmp 37]) rfl ?_);at_builtin;refine Kd.Vk k47 (w0:=w) w.heap.size rfl (.tmp 36) (.tmp 37) 36 47 (.agg #[(.int .i64 0),(.int .i64 0),(.int .i64 0),(.int .i64 0)]) 32 rfl Try.underlying36 Ve rfl (by decide) (by omega) v595 y594 t588 _ _ _ (fun k_=>some k_≠(.slice Ao13 t588.length co13:Value).ownBlock∧some k_≠(v592:Value).ownBlock) (fun _=>False) rfl rfl ?aO ?aR (fun _ _ h=>h) (fun _ h=>h.elim) ?aF ?aB ?aS ?aL ?_;(case aR=>repeat (first|exact (Kd.R_reads' HO590.out).2.2|(with_reducible refine Kd.Xm ?_ _)|(with_reducible refine Kd.Xn ?_ _)|(with_reducible refine Kd.Xv ?_)));(case aB=>exact (bl_ HB));(case aF=>exact (fun k_ hk=>⟨Kd.fresh' (Kd.Zx (Kd.ra_ (HO590.out))) k_ hk,Kd.fresh' (Kd.Zx (Kd.ra_ (HO593.out))) k_ hk⟩));(case aO=>exact (Kd.ra_ (Kd.Xq HO596.out (fun _ hk=>⟨hk.1.2,hk.2⟩))));(case aS=>exact (Xd (bl_ HB)));(case aL=>have:=LMc6.out;omega);intro v598 w18 ho hb hg hat;rw [← Ny597.out] at ho;have n0_:=Xa.mk (Vb (g:=gb587) (o:=.cells #[.int .i64 a0_0,.int .i64 a0_1,.int .i64 a0_2,.int .i64 a0_3,.slice A0_4 l0_4.length c0_4,.slice A0_5 l0_5.length c0_5] 82 (0,0)) (ba_ BK587) hg (Kd.R_ne HO596.out BK587.out (by decide)));have n1_:=Xa.mk (Kd.Yy (ok:=(fun k_=>some k_≠(v592:Value).ownBlock)) (Kd.ra_ (Kd.Xq HO590.out (fun _ hk=>⟨hk.1.2,hk.2⟩))) hg hat);have n2_:=Xa.mk (Kd.Yy (ok:=(fun k_=>some k_≠(.slice Ao13 t588.length co13:Value).ownBlock)) (Kd.ra_ (Kd.Xq HO593.out (fun _ hk=>⟨hk.1.2,hk.2⟩))) hg hat);have n3_:=Xa.mk (hb);have n4_:=Xa.mk (ho);clear BK587;clear HO590;clear HO593;clear HB;clear HO596;have BK587:=n0_;have HO590:=n1_;have HO593:=n2_;have HB:=n3_;have HO599:=n4_;clear n0_ n1_ n2_ n3_ n4_;clear ho hb hg hat;obtain ⟨Ao19,co19,eo19⟩:=Kd.Yo HO593.out;subst eo19)|((with_reducible refine Yc (N:=49) rfl ?_);refine Kd.R_lit k47 _ 47 ?hg (N:=49) ?hd (xs:=([(⟨7,0,0,wrap64 ((wrap64 ((wrap64 (a1+2))+(t588.length:Int)))+(t591.length:Int))⟩:S47)]:List (S47))) (inner:=[.int .i64 7,.int .i64 0,.int .i64 0,.int .i64 (wrap64 ((wrap64 ((wrap64 (a1+2))+(t588.length:Int)))+(t591.length:Int)))]) (ok:=fun _=>True) (okp:=fun _=>True) ?hr ?hp (fun _ hk=>hk) trivial (Below.refl _ _) (Nat.le_refl _) (by simp) ?_;(case hd=>rfl);(case hg=>rfl);(case hr=>first|(go_simp;done)|(go_simp;rfl));(case hp=>exact (Yn.c4 (show Kd.M k47 _ _ _ (⟨7,0,0,wrap64 ((wrap64 ((wrap64 (a1+2))+(t588.length:Int)))+(t591.length:Int))⟩:S47) [.int .i64 7,.int .i64 0,.int .i64 0,.int .i64 (wrap64 ((wrap64 ((wrap64 (a1+2))+(t588.length:Int)))+(t591.length:Int)))] from (Us _ _ _ (⟨7,0,0,wrap64 ((wrap64 ((wrap64 (a1+2))+(t588.length:Int)))+(t591.length:Int))⟩:S47) )) (Yn.none _ _)));intro v601 w20 ho21 hb hg_ hnew_;clear hg_ hnew_;(first|rw [← Ny600.out] at ho21|(simp only [Int.reduceToNat] at ho21;rw [← Ny600.out] at ho21));have n0_:=Xa.mk (Kd.R_elder' (Kd.ra_ (HO590.out)) (Kd.Yr ho21) hb);have n1_:=Xa.mk (Kd.R_elder' (Kd.ra_ (HO593.out)) (Kd.Yr ho21) hb);have n2_:=Xa.mk (Kd.R_elder' (Kd.ra_ (HO599.out)) (Kd.Yr ho21) hb);have n3_:=Xa.mk (Kd.Ye (Kd.R_new' (Kd.R_new' (Kd.R_new' ho21 (Kd.Zx (Kd.ra_ (HO590.out)))) (Kd.Zx (Kd.ra_ (HO593.out)))) (Kd.Zx (Kd.ra_ (HO599.out)))) (Xd (bl_ HB)));have n4_:=Xa.mk (Zv (g:=gb587) (o:=.cells #[.int .i64 a0_0,.int .i64 a0_1,.int .i64 a0_2,.int .i64 a0_3,.slice A0_4 l0_4.length c0_4,.slice A0_5 l0_5.length c0_5] 82 (0,0)) (ba_ BK587) hb);have n5_:=Xa.mk (Xc (bl_ HB) hb);clear HO590;clear HO593;clear HO599;clear BK587;clear HB;have HO590:=n0_;have HO593:=n1_;have HO599:=n2_;have HO602:=n3_;have BK587:=n4_;have HB:=n5_;clear n0_ n1_ n2_ n3_ n4_ n5_;clear hb ho21;obtain ⟨Ao23,co23,eo23⟩:=Kd.Yo HO602.out;subst eo23)|((with_reducible refine Zk (b:=.append) (xs:=#[.tmp 39,.tmp 49]) rfl ?_);at_builtin;refine Kd.Vk k47 (w0:=w) w.heap.size rfl (.tmp 39) (.tmp 49) 36 47 (.agg #[(.int .i64 0),(.int .i64 0),(.int .i64 0),(.int .i64 0)]) 32 rfl Try.underlying36 Ve rfl (by decide) (by omega) v598 y597 y600 _ _ _ (fun k_=>some k_≠(.slice Ao13 t588.length co13:Value).ownBlock∧some k_≠(.slice Ao19 t591.length co19:Value).ownBlock∧some k_≠(.slice Ao23 y600.length co23:Value).ownBlock) (fun _=>False) rfl rfl ?aO ?aR (fun _ _ h=>h) (fun _ h=>h.elim) ?aF ?aB ?aS ?aL ?_;(case aR=>repeat (first|exact (Kd.R_reads' HO602.out).2.2|(with_reducible refine Kd.Xm ?_ _)|(with_reducible refine Kd.Xn ?_ _)|(with_reducible refine Kd.Xv ?_)));(case aB=>exact (bl_ HB));(case aF=>exact (fun k_ hk=>⟨Kd.fresh' (Kd.Zx (Kd.ra_ (HO590.out))) k_ hk,Kd.fresh' (Kd.Zx (Kd.ra_ (HO593.out))) k_ hk,Kd.fresh' (Kd.Zx (Kd.ra_ (HO602.out))) k_ hk⟩));(case aO=>exact (Kd.ra_ (Kd.Xq HO599.out (fun _ hk=>⟨hk.1.1,⟨hk.1.2,hk.2⟩⟩))));(case aS=>exact (Xd (bl_ HB)));(case aL=>have:=LMc7.out;omega);intro v604 w22 ho hb hg hat;rw [← Ny603.out] at ho;have n0_:=Xa.mk (Vb (g:=gb587) (o:=.cells #[.int .i64 a0_0,.int .i64 a0_1,.int .i64 a0_2,.int .i64 a0_3,.slice A0_4 l0_4.length c0_4,.slice A0_5 l0_5.length c0_5] 82 (0,0)) (ba_ BK587) hg (Kd.R_ne HO599.out BK587.out (by decide)));have n1_:=Xa.mk (Kd.Yy (ok:=(fun k_=>some k_≠(.slice Ao19 t591.length co19:Value).ownBlock∧some k_≠(.slice Ao23 y600.length co23:Value).ownBlock)) (Kd.ra_ (Kd.Xq HO590.out (fun _ hk=>⟨⟨hk.1.1,hk.2⟩,hk.1.2⟩))) hg hat);have n2_:=Xa.mk (Kd.Yy (ok:=(fun k_=>some k_≠(.slice Ao13 t588.length co13:Value).ownBlock∧some k_≠(.slice Ao23 y600.length co23:Value).ownBlock)) (Kd.ra_ (Kd.Xq HO593.out (fun _ hk=>⟨⟨hk.1.1,hk.2⟩,hk.1.2⟩))) hg hat);have n3_:=Xa.mk (Kd.Yy (ok:=(fun k_=>some k_≠(.slice Ao13 t588.length co13:Value).ownBlock∧some k_≠(.slice Ao19 t591.length co19:Value).ownBlock)) (Kd.ra_ (Kd.Xq HO602.out (fun _ hk=>⟨⟨hk.1.1.2,hk.1.2⟩,hk.2⟩))) hg hat);have n4_:=Xa.mk (hb);have n5_:=Xa.mk (ho);clear BK587;clear HO590;clear HO593;clear HO602;clear HB;clear HO599;have BK587:=n0_;have HO590:=n1_;have HO593:=n2_;have HO602:=n3_;have HB:=n4_;have HO605:=n5_;clear n0_ n1_ n2_ n3_ n4_ n5_;clear ho hb hg hat)|((with_reducible refine Zk (b:=.append) (xs:=#[.tmp 50,.tmp 51]) rfl ?_);at_builtin;refine Kd.Vk k47 (w0:=w) w.heap.size rfl (.tmp 50) (.tmp 51) 36 47 (.agg #[(.int .i64 0),(.int .i64 0),(.int .i64 0),(.int .i64 0)]) 32 rfl Try.underlying36 Ve rfl (by decide) (by omega) v604 y603 t591 _ _ _ (fun k_=>some k_≠(.slice Ao13 t588.length co13:Value).ownBlock∧some k_≠(.slice Ao19 t591.length co19:Value).ownBlock∧some k_≠(.slice Ao23 y600.length co23:Value).ownBlock) (fun _=>False) rfl rfl ?aO ?aR (fun _ _ h=>h) (fun _ h=>h.elim) ?aF ?aB ?aS ?aL ?_;(case aR=>repeat (first|exact (Kd.R_reads' HO593.out).2.2|(with_reducible refine Kd.Xm ?_ _)|(with_reducible refine Kd.Xn ?_ _)|(with_reducible refine Kd.Xv ?_)));(case aB=>exact (bl_ HB));(case aF=>exact (fun k_ hk=>⟨Kd.fresh' (Kd.Zx (Kd.ra_ (HO590.out))) k_ hk,Kd.fresh' (Kd.Zx (Kd.ra_ (HO593.out))) k_ hk,Kd.fresh' (Kd.Zx (Kd.ra_ (HO602.out))) k_ hk⟩));(case aO=>exact (Kd.ra_ (HO605.out)));(case aS=>exact (Xd (bl_ HB)));(case aL=>have:=LMc8.out;omega);intro v607 w24 ho hb hg hat;rw [← Ny606.out] at ho;have n0_:=Xa.mk (Vb (g:=gb587) (o:=.cells #[.int .i64 a0_0,.int .i64 a0_1,.int .i64 a0_2,.int .i64 a0_3,.slice A0_4 l0_4.length c0_4,.slice A0_5 l0_5.length c0_5] 82 (0,0)) (ba_ BK587) hg (Kd.R_ne HO605.out BK587.out (by decide)));have n1_:=Xa.mk (Kd.Yy (ok:=(fun k_=>some k_≠(.slice Ao19 t591.length co19:Value).ownBlock∧some k_≠(.slice Ao23 y600.length co23:Value).ownBlock)) (Kd.ra_ (HO590.out)) hg hat);have n2_:=Xa.mk (Kd.Yy (ok:=(fun k_=>some k_≠(.slice Ao13 t588.length co13:Value).ownBlock∧some k_≠(.slice Ao23 y600.length co23:Value).ownBlock)) (Kd.ra_ (HO593.out)) hg hat);have n3_:=Xa.mk (Kd.Yy (ok:=(fun k_=>some k_≠(.slice Ao13 t588.length co13:Value).ownBlock∧some k_≠(.slice Ao19 t591.length co19:Value).ownBlock)) (Kd.ra_ (HO602.out)) hg hat);have n4_:=Xa.mk (hb);have n5_:=Xa.mk (ho);clear BK587;clear HO590;clear HO593;clear HO602;clear HB;clear HO605;have BK587:=n0_;have HO590:=n1_;have HO593:=n2_;have HO602:=n3_;have HB:=n4_;have HO608:=n5_;clear n0_ n1_ n2_ n3_ n4_ n5_;clear ho hb hg hat))
     go_ret
     exact ⟨_,rf_,Kd.ra_ (Kd.Xq HO608.out (fun _ hk=>trivial)),bl_ HB⟩
    ·rw [if_neg c8] at H;exact absurd H (by simp)
   ·rw [if_neg c7] at H;exact absurd H (by simp)
  ·rw [if_neg c6] at H;exact absurd H (by simp)
 ·rw [if_neg c3] at H;have c3b0:(a0_0 == 6)=false:=beq_eq_false_iff_ne.mpr c3;have c3b1:(a0_0 != 6)=true:=bne_iff_ne.mpr c3;by_cases c25:a0_0=7
  ·rw [if_pos c25] at H;have c25b0:(a0_0 == 7)=true:=beq_iff_eq.mpr c25;have c25b1:(a0_0 != 7)=false:=bne_eq_false_iff_eq.mpr c25;clear c25;replace H:=Option.bind_eq_some_iff.mp H;obtain ⟨t609,A260,H⟩:=H;replace H:((some (([(⟨6,a0_1,0,wrap64 ((wrap64 (a1+2))+(t609.length:Int))⟩:S47)]:List (S47)):List (S47))).bind fun y612=>(if y612.length+t609.length<4398046511104 then ((some (y612 ++ t609:List (S47))).bind fun y615=>((some (([(⟨7,0,0,a1⟩:S47)]:List (S47)):List (S47))).bind fun y618=>(if y615.length+y618.length<4398046511104 then (some (y615 ++ y618)) else (none)))) else (none)))=some r:=H;have A26:=Xa.mk A260;clear A260;obtain ⟨y612,hy612⟩:∃ y_:List (S47),y_=(([(⟨6,a0_1,0,wrap64 ((wrap64 (a1+2))+(t609.length:Int))⟩:S47)]:List (S47))):=⟨_,rfl⟩
   replace H:(if y612.length+t609.length<4398046511104 then ((some (y612 ++ t609:List (S47))).bind fun y615=>((some (([(⟨7,0,0,a1⟩:S47)]:List (S47)):List (S47))).bind fun y618=>(if y615.length+y618.length<4398046511104 then (some (y615 ++ y618)) else (none)))) else (none))=some r:=by subst hy612;first|with_reducible exact H|(have z:=(Option.bind_some _ _).symm.trans H;with_reducible exact z)|exact H
   have Ny612:=Xa.mk hy612;clear hy612;by_cases c27:y612.length+t609.length<4398046511104
   ·rw [if_pos c27] at H;have LMc27:=Xa.mk c27;clear c27;obtain ⟨y615,hy615⟩:∃ y_:List (S47),y_=(y612 ++ t609):=⟨_,rfl⟩
    replace H:((some (([(⟨7,0,0,a1⟩:S47)]:List (S47)):List (S47))).bind fun y618=>(if y615.length+y618.length<4398046511104 then (some (y615 ++ y618)) else (none)))=some r:=by subst hy615;first|with_reducible exact H|(have z:=(Option.bind_some _ _).symm.trans H;with_reducible exact z)|exact H
    have Ny615:=Xa.mk hy615;clear hy615;obtain ⟨y618,hy618⟩:∃ y_:List (S47),y_=(([(⟨7,0,0,a1⟩:S47)]:List (S47))):=⟨_,rfl⟩
    replace H:(if y615.length+y618.length<4398046511104 then (some (y615 ++ y618)) else (none))=some r:=by subst hy618;first|with_reducible exact H|(have z:=(Option.bind_some _ _).symm.trans H;with_reducible exact z)|exact H
    have Ny618:=Xa.mk hy618;clear hy618;by_cases c28:y615.length+y618.length<4398046511104
    ·rw [if_pos c28] at H;have LMc28:=Xa.mk c28;clear c28;obtain ⟨y621,hy621⟩:∃ y_:List (S47),y_=(y615 ++ y618):=⟨_,rfl⟩
     replace H:(some y621)=some r:=by subst hy621;first|with_reducible exact H|(have z:=(Option.bind_some _ _).symm.trans H;with_reducible exact z)|exact H
     have Ny621:=Xa.mk hy621;clear hy621;obtain rfl:=Option.some.inj H
     go_enter Try.func96,Try.ntmps96
     go_wp2_with (first|((with_reducible refine Yc (N:=2) rfl ?_);refine Yv ?hg (N:=2) ?hd (cs:=#[.int .i64 a0_0,.int .i64 a0_1,.int .i64 a0_2,.int .i64 a0_3,.slice A0_4 l0_4.length c0_4,.slice A0_5 l0_5.length c0_5]) (t:=82) ?hr ?_;(case hd=>rfl);(case hg=>rfl);(case hr=>first|(go_simp;done)|(go_simp;rfl));intro gb587 hg w29 hbox hb;have n0_:=Xa.mk (Xc (bl_ HB) hb);have n1_:=Xa.mk (hbox);have n2_:=Xa.mk ((by rw [hg];exact (Xd (bl_ HB)):w.heap.size≤gb587));have n3_:=Xa.mk ((by rw [hg];exact (Xd (bl_ HB)):w.heap.size≤gb587));clear HB;have HB:=n0_;have BK587:=n1_;have GW587:=n2_;have GE587:=n3_;clear n0_ n1_ n2_ n3_;clear hb hbox hg;obtain ⟨hcz30_0,hcz30_1,hcz30_2,hcz30_3,hcz30_4,hcz30_5⟩:=Ut BK587.out;obtain ⟨hfz30_0,hfz30_1,hfz30_2,hfz30_3,hfz30_4,hfz30_5⟩:=Uu BK587.out)|((with_reducible refine Xo (f:=84) rfl ?_);refine Yz (some 59) rfl rfl Try.func84 (by kernel_rfl) rfl #[.slice A0_4 l0_4.length c0_4,.int .i64 (wrap64 (a1+1))] rfl ga_ ?_;(with_reducible refine (ih_spec_l4Of k (by omega) _ _ l0_4 (wrap64 (a1+1)) t609 _ ?side1 ?side2 A26.out).mono ?_);(case side1=>repeat (first|exact (Kd.Zt HR0_4.out HB.out)|(with_reducible refine Kd.Xm ?_ _)|(with_reducible refine Kd.Xn ?_ _)|(with_reducible refine Kd.Xv ?_)));(case side2=>exact HC0_4.out);rintro e w31 ⟨v610,rfl,ho0,hb⟩;refine ⟨_,rfl,?_⟩;have n0_:=Xa.mk (Kd.Ye ho0 (Xd (bl_ HB)));have n1_:=Xa.mk (Zv (g:=gb587) (o:=.cells #[.int .i64 a0_0,.int .i64 a0_1,.int .i64 a0_2,.int .i64 a0_3,.slice A0_4 l0_4.length c0_4,.slice A0_5 l0_5.length c0_5] 82 (0,0)) (ba_ BK587) hb);have n2_:=Xa.mk (Xc (bl_ HB) hb);clear BK587;clear HB;have HO611:=n0_;have BK587:=n1_;have HB:=n2_;clear n0_ n1_ n2_;(try clear hb);(try clear hb2);(try clear hk);(try clear hi);(try clear ho0);obtain ⟨hcz32_0,hcz32_1,hcz32_2,hcz32_3,hcz32_4,hcz32_5⟩:=Ut BK587.out;obtain ⟨hfz32_0,hfz32_1,hfz32_2,hfz32_3,hfz32_4,hfz32_5⟩:=Uu BK587.out;obtain ⟨Ao33,co33,eo33⟩:=Kd.Yo HO611.out;subst eo33)|((with_reducible refine Yc (N:=68) rfl ?_);refine Kd.R_lit k47 _ 47 ?hg (N:=68) ?hd (xs:=([(⟨6,a0_1,0,wrap64 ((wrap64 (a1+2))+(t609.length:Int))⟩:S47)]:List (S47))) (inner:=[.int .i64 6,.int .i64 a0_1,.int .i64 0,.int .i64 (wrap64 ((wrap64 (a1+2))+(t609.length:Int)))]) (ok:=fun _=>True) (okp:=fun _=>True) ?hr ?hp (fun _ hk=>hk) trivial (Below.refl _ _) (Nat.le_refl _) (by simp) ?_;(case hd=>rfl);(case hg=>rfl);(case hr=>first|(go_simp;done)|(go_simp;rfl));(case hp=>exact (Yn.c4 (show Kd.M k47 _ _ _ (⟨6,a0_1,0,wrap64 ((wrap64 (a1+2))+(t609.length:Int))⟩:S47) [.int .i64 6,.int .i64 a0_1,.int .i64 0,.int .i64 (wrap64 ((wrap64 (a1+2))+(t609.length:Int)))] from (Us _ _ _ (⟨6,a0_1,0,wrap64 ((wrap64 (a1+2))+(t609.length:Int))⟩:S47) )) (Yn.none _ _)));intro v613 w34 ho35 hb hg_ hnew_;clear hg_ hnew_;(first|rw [← Ny612.out] at ho35|(simp only [Int.reduceToNat] at ho35;rw [← Ny612.out] at ho35));have n0_:=Xa.mk (Kd.R_elder' (Kd.ra_ (HO611.out)) (Kd.Yr ho35) hb);have n1_:=Xa.mk (Kd.Ye (Kd.R_new' ho35 (Kd.Zx (Kd.ra_ (HO611.out)))) (Xd (bl_ HB)));have n2_:=Xa.mk (Zv (g:=gb587) (o:=.cells #[.int .i64 a0_0,.int .i64 a0_1,.int .i64 a0_2,.int .i64 a0_3,.slice A0_4 l0_4.length c0_4,.slice A0_5 l0_5.length c0_5] 82 (0,0)) (ba_ BK587) hb);have n3_:=Xa.mk (Xc (bl_ HB) hb);clear HO611;clear BK587;clear HB;have HO611:=n0_;have HO614:=n1_;have BK587:=n2_;have HB:=n3_;clear n0_ n1_ n2_ n3_;clear hb ho35)|((with_reducible refine Zk (b:=.append) (xs:=#[.tmp 68,.tmp 69]) rfl ?_);at_builtin;refine Kd.Vk k47 (w0:=w) w.heap.size rfl (.tmp 68) (.tmp 69) 36 47 (.agg #[(.int .i64 0),(.int .i64 0),(.int .i64 0),(.int .i64 0)]) 32 rfl Try.underlying36 Ve rfl (by decide) (by omega) v613 y612 t609 _ _ _ (fun k_=>some k_≠(.slice Ao33 t609.length co33:Value).ownBlock) (fun _=>False) rfl rfl ?aO ?aR (fun _ _ h=>h) (fun _ h=>h.elim) ?aF ?aB ?aS ?aL ?_;(case aR=>repeat (first|exact (Kd.R_reads' HO611.out).2.2|(with_reducible refine Kd.Xm ?_ _)|(with_reducible refine Kd.Xn ?_ _)|(with_reducible refine Kd.Xv ?_)));(case aB=>exact (bl_ HB));(case aF=>exact (fun k_ hk=>Kd.fresh' (Kd.Zx (Kd.ra_ (HO611.out))) k_ hk));(case aO=>exact (Kd.ra_ (Kd.Xq HO614.out (fun _ hk=>hk.2))));(case aS=>exact (Xd (bl_ HB)));(case aL=>have:=LMc27.out;omega);intro v616 w36 ho hb hg hat;rw [← Ny615.out] at ho;have n0_:=Xa.mk (Vb (g:=gb587) (o:=.cells #[.int .i64 a0_0,.int .i64 a0_1,.int .i64 a0_2,.int .i64 a0_3,.slice A0_4 l0_4.length c0_4,.slice A0_5 l0_5.length c0_5] 82 (0,0)) (ba_ BK587) hg (Kd.R_ne HO614.out BK587.out (by decide)));have n1_:=Xa.mk (Kd.Yy (ok:=(fun _=>True)) (Kd.ra_ (HO611.out)) hg hat);have n2_:=Xa.mk (hb);have n3_:=Xa.mk (ho);clear BK587;clear HO611;clear HB;clear HO614;have BK587:=n0_;have HO611:=n1_;have HB:=n2_;have HO617:=n3_;clear n0_ n1_ n2_ n3_;clear ho hb hg hat)|((with_reducible refine Yc (N:=74) rfl ?_);refine Kd.R_lit k47 _ 47 ?hg (N:=74) ?hd (xs:=([(⟨7,0,0,a1⟩:S47)]:List (S47))) (inner:=[.int .i64 7,.int .i64 0,.int .i64 0,.int .i64 a1]) (ok:=fun _=>True) (okp:=fun _=>True) ?hr ?hp (fun _ hk=>hk) trivial (Below.refl _ _) (Nat.le_refl _) (by simp) ?_;(case hd=>rfl);(case hg=>rfl);(case hr=>first|(go_simp;done)|(go_simp;rfl));(case hp=>exact (Yn.c4 (show Kd.M k47 _ _ _ (⟨7,0,0,a1⟩:S47) [.int .i64 7,.int .i64 0,.int .i64 0,.int .i64 a1] from (Us _ _ _ (⟨7,0,0,a1⟩:S47) )) (Yn.none _ _)));intro v619 w37 ho38 hb hg_ hnew_;clear hg_ hnew_;(first|rw [← Ny618.out] at ho38|(simp only [Int.reduceToNat] at ho38;rw [← Ny618.out] at ho38));have n0_:=Xa.mk (Kd.R_elder' (Kd.ra_ (HO611.out)) (Kd.Yr ho38) hb);have n1_:=Xa.mk (Kd.R_elder' (Kd.ra_ (HO617.out)) (Kd.Yr ho38) hb);have n2_:=Xa.mk (Kd.Ye (Kd.R_new' (Kd.R_new' ho38 (Kd.Zx (Kd.ra_ (HO611.out)))) (Kd.Zx (Kd.ra_ (HO617.out)))) (Xd (bl_ HB)));have n3_:=Xa.mk (Zv (g:=gb587) (o:=.cells #[.int .i64 a0_0,.int .i64 a0_1,.int .i64 a0_2,.int .i64 a0_3,.slice A0_4 l0_4.length c0_4,.slice A0_5 l0_5.length c0_5] 82 (0,0)) (ba_ BK587) hb);have n4_:=Xa.mk (Xc (bl_ HB) hb);clear HO611;clear HO617;clear BK587;clear HB;have HO611:=n0_;have HO617:=n1_;have HO620:=n2_;have BK587:=n3_;have HB:=n4_;clear n0_ n1_ n2_ n3_ n4_;clear hb ho38;obtain ⟨Ao40,co40,eo40⟩:=Kd.Yo HO620.out;subst eo40)|((with_reducible refine Zk (b:=.append) (xs:=#[.tmp 71,.tmp 74]) rfl ?_);at_builtin;refine Kd.Vk k47 (w0:=w) w.heap.size rfl (.tmp 71) (.tmp 74) 36 47 (.agg #[(.int .i64 0),(.int .i64 0),(.int .i64 0),(.int .i64 0)]) 32 rfl Try.underlying36 Ve rfl (by decide) (by omega) v616 y615 y618 _ _ _ (fun k_=>some k_≠(.slice Ao33 t609.length co33:Value).ownBlock∧some k_≠(.slice Ao40 y618.length co40:Value).ownBlock) (fun _=>False) rfl rfl ?aO ?aR (fun _ _ h=>h) (fun _ h=>h.elim) ?aF ?aB ?aS ?aL ?_;(case aR=>repeat (first|exact (Kd.R_reads' HO620.out).2.2|(with_reducible refine Kd.Xm ?_ _)|(with_reducible refine Kd.Xn ?_ _)|(with_reducible refine Kd.Xv ?_)));(case aB=>exact (bl_ HB));(case aF=>exact (fun k_ hk=>⟨Kd.fresh' (Kd.Zx (Kd.ra_ (HO611.out))) k_ hk,Kd.fresh' (Kd.Zx (Kd.ra_ (HO620.out))) k_ hk⟩));(case aO=>exact (Kd.ra_ (HO617.out)));(case aS=>exact (Xd (bl_ HB)));(case aL=>have:=LMc28.out;omega);intro v622 w39 ho hb hg hat;rw [← Ny621.out] at ho;have n0_:=Xa.mk (Vb (g:=gb587) (o:=.cells #[.int .i64 a0_0,.int .i64 a0_1,.int .i64 a0_2,.int .i64 a0_3,.slice A0_4 l0_4.length c0_4,.slice A0_5 l0_5.length c0_5] 82 (0,0)) (ba_ BK587) hg (Kd.R_ne HO617.out BK587.out (by decide)));have n1_:=Xa.mk (Kd.Yy (ok:=(fun k_=>some k_≠(.slice Ao40 y618.length co40:Value).ownBlock)) (Kd.ra_ (Kd.Xq HO611.out (fun _ hk=>⟨hk.2,hk.1.2⟩))) hg hat);have n2_:=Xa.mk (Kd.Yy (ok:=(fun k_=>some k_≠(.slice Ao33 t609.length co33:Value).ownBlock)) (Kd.ra_ (Kd.Xq HO620.out (fun _ hk=>⟨hk.1.2,hk.2⟩))) hg hat);have n3_:=Xa.mk (hb);have n4_:=Xa.mk (ho);clear BK587;clear HO611;clear HO620;clear HB;clear HO617;have BK587:=n0_;have HO611:=n1_;have HO620:=n2_;have HB:=n3_;have HO623:=n4_;clear n0_ n1_ n2_ n3_ n4_;clear ho hb hg hat))
     go_ret
     exact ⟨_,rf_,Kd.ra_ (Kd.Xq HO623.out (fun _ hk=>trivial)),bl_ HB⟩
    ·rw [if_neg c28] at H;exact absurd H (by simp)
   ·rw [if_neg c27] at H;exact absurd H (by simp)
  ·rw [if_neg c25] at H;have c25b0:(a0_0 == 7)=false:=beq_eq_false_iff_ne.mpr c25;have c25b1:(a0_0 != 7)=true:=bne_iff_ne.mpr c25;by_cases c41:a0_0=8
   ·rw [if_pos c41] at H;have c41b0:(a0_0 == 8)=true:=beq_iff_eq.mpr c41;have c41b1:(a0_0 != 8)=false:=bne_eq_false_iff_eq.mpr c41;clear c41;replace H:=Option.bind_eq_some_iff.mp H;obtain ⟨t624,A420,H⟩:=H;replace H:((some (([(⟨8,a0_1,0,0⟩:S47)]:List (S47)):List (S47))).bind fun y627=>(if y627.length+t624.length<4398046511104 then ((some (y627 ++ t624:List (S47))).bind fun y630=>((some (([(⟨9,a0_1,0,0⟩:S47)]:List (S47)):List (S47))).bind fun y633=>(if y630.length+y633.length<4398046511104 then (some (y630 ++ y633)) else (none)))) else (none)))=some r:=H;have A42:=Xa.mk A420;clear A420;obtain ⟨y627,hy627⟩:∃ y_:List (S47),y_=(([(⟨8,a0_1,0,0⟩:S47)]:List (S47))):=⟨_,rfl⟩
    replace H:(if y627.length+t624.length<4398046511104 then ((some (y627 ++ t624:List (S47))).bind fun y630=>((some (([(⟨9,a0_1,0,0⟩:S47)]:List (S47)):List (S47))).bind fun y633=>(if y630.length+y633.length<4398046511104 then (some (y630 ++ y633)) else (none)))) else (none))=some r:=by subst hy627;first|with_reducible exact H|(have z:=(Option.bind_some _ _).symm.trans H;with_reducible exact z)|exact H
    have Ny627:=Xa.mk hy627;clear hy627;by_cases c43:y627.length+t624.length<4398046511104
    ·rw [if_pos c43] at H;have LMc43:=Xa.mk c43;clear c43;obtain ⟨y630,hy630⟩:∃ y_:List (S47),y_=(y627 ++ t624):=⟨_,rfl⟩
     replace H:((some (([(⟨9,a0_1,0,0⟩:S47)]:List (S47)):List (S47))).bind fun y633=>(if y630.length+y633.length<4398046511104 then (some (y630 ++ y633)) else (none)))=some r:=by subst hy630;first|with_reducible exact H|(have z:=(Option.bind_some _ _).symm.trans H;with_reducible exact z)|exact H
     have Ny630:=Xa.mk hy630;clear hy630;obtain ⟨y633,hy633⟩:∃ y_:List (S47),y_=(([(⟨9,a0_1,0,0⟩:S47)]:List (S47))):=⟨_,rfl⟩
     replace H:(if y630.length+y633.length<4398046511104 then (some (y630 ++ y633)) else (none))=some r:=by subst hy633;first|with_reducible exact H|(have z:=(Option.bind_some _ _).symm.trans H;with_reducible exact z)|exact H
     have Ny633:=Xa.mk hy633;clear hy633;by_cases c44:y630.length+y633.length<4398046511104
     ·rw [if_pos c44] at H;have LMc44:=Xa.mk c44;clear c44;obtain ⟨y636,hy636⟩:∃ y_:List (S47),y_=(y630 ++ y633):=⟨_,rfl⟩
      replace H:(some y636)=some r:=by subst hy636;first|with_reducible exact H|(have z:=(Option.bind_some _ _).symm.trans H;with_reducible exact z)|exact H
      have Ny636:=Xa.mk hy636;clear hy636;obtain rfl:=Option.some.inj H
      go_enter Try.func96,Try.ntmps96
      try go_wp2_with (first|((with_reducible refine Yc (N:=2) rfl ?_);refine Yv ?hg (N:=2) ?hd (cs:=#[.int .i64 a0_0,.int .i64 a0_1,.int .i64 a0_2,.int .i64 a0_3,.slice A0_4 l0_4.length c0_4,.slice A0_5 l0_5.length c0_5]) (t:=82) ?hr ?_;(case hd=>rfl);(case hg=>rfl);(case hr=>first|(go_simp;done)|(go_simp;rfl));intro gb587 hg w45 hbox hb;have n0_:=Xa.mk (Xc (bl_ HB) hb);have n1_:=Xa.mk (hbox);have n2_:=Xa.mk ((by rw [hg];exact (Xd (bl_ HB)):w.heap.size≤gb587));have n3_:=Xa.mk ((by rw [hg];exact (Xd (bl_ HB)):w.heap.size≤gb587));clear HB;have HB:=n0_;have BK587:=n1_;have GW587:=n2_;have GE587:=n3_;clear n0_ n1_ n2_ n3_;clear hb hbox hg;obtain ⟨hcz46_0,hcz46_1,hcz46_2,hcz46_3,hcz46_4,hcz46_5⟩:=Ut BK587.out;obtain ⟨hfz46_0,hfz46_1,hfz46_2,hfz46_3,hfz46_4,hfz46_5⟩:=Uu BK587.out)|((with_reducible refine Xo (f:=84) rfl ?_);refine Yz (some 82) rfl rfl Try.func84 (by kernel_rfl) rfl #[.slice A0_4 l0_4.length c0_4,.int .i64 (wrap64 (a1+1))] rfl ga_ ?_;(with_reducible refine (ih_spec_l4Of k (by omega) _ _ l0_4 (wrap64 (a1+1)) t624 _ ?side1 ?side2 A42.out).mono ?_);(case side1=>repeat (first|exact (Kd.Zt HR0_4.out HB.out)|(with_reducible refine Kd.Xm ?_ _)|(with_reducible refine Kd.Xn ?_ _)|(with_reducible refine Kd.Xv ?_)));(case side2=>exact HC0_4.out);rintro e w47 ⟨v625,rfl,ho0,hb⟩;refine ⟨_,rfl,?_⟩;have n0_:=Xa.mk (Kd.Ye ho0 (Xd (bl_ HB)));have n1_:=Xa.mk (Zv (g:=gb587) (o:=.cells #[.int .i64 a0_0,.int .i64 a0_1,.int .i64 a0_2,.int .i64 a0_3,.slice A0_4 l0_4.length c0_4,.slice A0_5 l0_5.length c0_5] 82 (0,0)) (ba_ BK587) hb);have n2_:=Xa.mk (Xc (bl_ HB) hb);clear BK587;clear HB;have HO626:=n0_;have BK587:=n1_;have HB:=n2_;clear n0_ n1_ n2_;(try clear hb);(try clear hb2);(try clear hk);(try clear hi);(try clear ho0);obtain ⟨Ao48,co48,eo48⟩:=Kd.Yo HO626.out;subst eo48))
      have n0_:=Xa.mk (Kd.R_drew HO626.out);have n1_:=Xa.mk (Xp BK587.out);have n2_:=Xa.mk (below_drew1 HB.out);clear HO626;clear BK587;clear HB;have HO626:=n0_;have BK587:=n1_;have HB:=n2_;clear n0_ n1_ n2_;refine start_ (n:=12) (S:=fun w'=>w'.cell? ⟨gb587,0,none⟩=some (.int .i64 a0_0)∧w'.cell? ⟨gb587,1,none⟩=some (.int .i64 a0_1)∧w'.cell? ⟨gb587,2,none⟩=some (.int .i64 a0_2)∧w'.cell? ⟨gb587,3,none⟩=some (.int .i64 a0_3)∧w'.cell? ⟨gb587,4,none⟩=some (.slice A0_4 l0_4.length c0_4)∧w'.cell? ⟨gb587,5,none⟩=some (.slice A0_5 l0_5.length c0_5)) (ds:=[]) #[false,false,false,false,false,false,false,false,false,false,false,false] (by kernel_rfl) rfl rfl ⟨(Yl BK587.out 0).trans rfl,(Yl BK587.out 1).trans rfl,(Yl BK587.out 2).trans rfl,(Yl BK587.out 3).trans rfl,(Yl BK587.out 4).trans rfl,(Yl BK587.out 5).trans rfl⟩ (fun hHeld=>?_);refine with_tabW Zd.tab13 Zd.bits13 (fun HT_ HW_=>?_)
      generalize w47.drew=w49 at HO626 BK587 HB hHeld ⊢
      refine Zg (i:=0) (N:=some 83) (v:=?_) (a':=?_) #[true,false,false,false,false,false,false,false,false,false,false,false] rfl rfl (Yw HT_.out (by kernel_rfl)) (fun _ _ _ h=>h) (Or.inl ⟨by rfl,?_⟩) ?_ ?_
      rotate_left
      ·intro w';go_simp
       with_reducible rfl
      rotate_left
      ·simp only [Act.put,List.setIfInBounds_toArray,List.set_cons_zero,List.set_cons_succ,Xz,Ya];rfl
      refine Zg (i:=4) (N:=some 87) (v:=?_) (a':=?_) #[true,false,false,false,true,false,false,false,false,false,false,false] rfl rfl (Yw HT_.out (by kernel_rfl)) (fun _ _ _ h=>h) (Or.inl ⟨by rfl,?_⟩) ?_ ?_
      rotate_left
      ·intro w';go_simp
       with_reducible rfl
      rotate_left
      ·simp only [Act.put,List.setIfInBounds_toArray,List.set_cons_zero,List.set_cons_succ,Xz,Ya];rfl
      refine Zg (i:=6) (N:=some 89) (v:=?_) (a':=?_) #[true,false,false,false,true,false,true,false,false,false,false,false] rfl rfl (Yw HT_.out (by kernel_rfl)) (fun _ _ _ h=>h) (Or.inl ⟨by rfl,?_⟩) ?_ ?_
      rotate_left
      ·intro w';go_simp
       with_reducible rfl
      rotate_left
      ·simp only [Act.put,List.setIfInBounds_toArray,List.set_cons_zero,List.set_cons_succ,Xz,Ya];rfl
      refine take_ (i:=1) (N:=some 84) (v:=?_) (a':=?_) #[true,true,false,false,true,false,true,false,false,false,false,false] rfl rfl (take_ofW HT_.out HW_.out (by kernel_rfl)) (fun _ _ _ h=>h) (Or.inl ⟨by rfl,?_⟩) hHeld ?_ ?_
      rotate_left
      ·rintro w' ⟨s0,s1,s2,s3,s4,s5⟩
       go_simp
       with_reducible rfl
      rotate_left
      ·simp only [Act.put,List.setIfInBounds_toArray,List.set_cons_zero,List.set_cons_succ,Xz,Ya];rfl
      refine Zg (i:=2) (N:=some 85) (v:=?_) (a':=?_) #[true,true,true,false,true,false,true,false,false,false,false,false] rfl rfl (Yw HT_.out (by kernel_rfl)) (fun _ _ _ h=>h) (Or.inl ⟨by rfl,?_⟩) ?_ ?_
      rotate_left
      ·intro w';go_simp
       with_reducible rfl
      rotate_left
      ·simp only [Act.put,List.setIfInBounds_toArray,List.set_cons_zero,List.set_cons_succ,Xz,Ya];rfl
      refine take_ (i:=7) (N:=some 90) (v:=?_) (a':=?_) #[true,true,true,false,true,false,true,true,false,false,false,false] rfl rfl (take_ofW HT_.out HW_.out (by kernel_rfl)) (fun _ _ _ h=>h) (Or.inl ⟨by rfl,?_⟩) hHeld ?_ ?_
      rotate_left
      ·rintro w' ⟨s0,s1,s2,s3,s4,s5⟩
       go_simp
       with_reducible rfl
      rotate_left
      ·simp only [Act.put,List.setIfInBounds_toArray,List.set_cons_zero,List.set_cons_succ,Xz,Ya];rfl
      refine Zg (i:=8) (N:=some 91) (v:=?_) (a':=?_) #[true,true,true,false,true,false,true,true,true,false,false,false] rfl rfl (Yw HT_.out (by kernel_rfl)) (fun _ _ _ h=>h) (Or.inl ⟨by rfl,?_⟩) ?_ ?_
      rotate_left
      ·intro w';go_simp
       with_reducible rfl
      rotate_left
      ·simp only [Act.put,List.setIfInBounds_toArray,List.set_cons_zero,List.set_cons_succ,Xz,Ya];rfl
      refine join_ (σ:=Value × Value × Value) 2 #[true,true,true,true,true,true,true,true,true,true,false,false] (fun s_=>[(86,s_.1),(88,s_.2.1),(92,s_.2.2)]) (fun s_ w'=>(w'.cell? ⟨gb587,0,none⟩=some (.int .i64 a0_0)∧w'.cell? ⟨gb587,1,none⟩=some (.int .i64 a0_1)∧w'.cell? ⟨gb587,2,none⟩=some (.int .i64 a0_2)∧w'.cell? ⟨gb587,3,none⟩=some (.int .i64 a0_3)∧w'.cell? ⟨gb587,4,none⟩=some (.slice A0_4 l0_4.length c0_4)∧w'.cell? ⟨gb587,5,none⟩=some (.slice A0_5 l0_5.length c0_5))∧(Kd.R k47 47 w' w.heap.size (fun k_=>some k_≠(s_.2.1:Value).ownBlock∧some k_≠(s_.2.2:Value).ownBlock) (.slice Ao48 t624.length co48) t624)∧(Kd.R k47 47 w' w.heap.size (fun k_=>some k_≠(.slice Ao48 t624.length co48:Value).ownBlock∧some k_≠(s_.2.2:Value).ownBlock) s_.2.1 y630)∧(Kd.R k47 47 w' w.heap.size (fun k_=>some k_≠(.slice Ao48 t624.length co48:Value).ownBlock∧some k_≠(s_.2.1:Value).ownBlock) s_.2.2 y633)∧(w'.heap[gb587]?=some (.cells #[.int .i64 a0_0,.int .i64 a0_1,.int .i64 a0_2,.int .i64 a0_3,.slice A0_4 l0_4.length c0_4,.slice A0_5 l0_5.length c0_5] 82 (0,0)))∧(Below w.heap.size w w')) ?_ ?_
      rotate_left
      ·intro hCont;refine two_ (i:=3) (j:=9) (Ni:=some 86) (Nj:=some 92) #[true,true,true,true,true,false,true,true,true,false,false,false] #[true,true,true,false,true,false,true,true,true,true,false,false] rfl rfl rfl rfl (two_of HT_.out (by kernel_rfl)) (by decide) (by decide) (fun K hK=>?_) (fun K hK=>?_)
       ·skip
        refine Kd.R_lit_step k47 _ 47 ?hg (N:=86) ?hd (xs:=([(⟨8,a0_1,0,0⟩:S47)]:List (S47))) (inner:=[.int .i64 8,.int .i64 a0_1,.int .i64 0,.int .i64 0]) (ok:=fun _=>True) (okp:=fun _=>True) ?hr ?hp (fun _ hk=>hk) trivial (Below.refl _ _) (Nat.le_refl _) (by simp) ?_;(case hd=>rfl);(case hg=>rfl);(case hr=>first|(go_simp;done)|(go_simp;rfl));(case hp=>exact (Yn.c4 (show Kd.M k47 _ _ _ (⟨8,a0_1,0,0⟩:S47) [.int .i64 8,.int .i64 a0_1,.int .i64 0,.int .i64 0] from (Us _ _ _ (⟨8,a0_1,0,0⟩:S47) )) (Yn.none _ _)))
        intro v628 w50 ho51 hb hg_ hnew_;clear hg_ hnew_
        (first|rw [← Ny627.out] at ho51|(simp only [Int.reduceToNat] at ho51;rw [← Ny627.out] at ho51))
        have n0_:=Xa.mk (Kd.R_elder' (Kd.ra_ (HO626.out)) (Kd.Yr ho51) hb);have n1_:=Xa.mk (Kd.Ye (Kd.R_new' ho51 (Kd.Zx (Kd.ra_ (HO626.out)))) (Xd (bl_ HB)));have n2_:=Xa.mk (Zv (g:=gb587) (o:=.cells #[.int .i64 a0_0,.int .i64 a0_1,.int .i64 a0_2,.int .i64 a0_3,.slice A0_4 l0_4.length c0_4,.slice A0_5 l0_5.length c0_5] 82 (0,0)) (ba_ BK587) hb);have n3_:=Xa.mk (Xc (bl_ HB) hb);clear HO626;clear BK587;clear HB;have HO626:=n0_;have HO629:=n1_;have BK587:=n2_;have HB:=n3_;clear n0_ n1_ n2_ n3_;clear hb ho51;refine hK.out _ _ ⟨(Yl BK587.out 0).trans rfl,(Yl BK587.out 1).trans rfl,(Yl BK587.out 2).trans rfl,(Yl BK587.out 3).trans rfl,(Yl BK587.out 4).trans rfl,(Yl BK587.out 5).trans rfl⟩ (fun hHeld=>?_)
        clear hK K;refine Uz (a':=?_) ?_ ?_
        rotate_left
        ·show Act.put _ (some 86) _=_
         simp only [Act.put,List.setIfInBounds_toArray,List.set_cons_zero,List.set_cons_succ,Xz,Ya];rfl
        refine two_ (i:=5) (j:=9) (Ni:=some 88) (Nj:=some 92) #[true,true,true,true,true,true,true,true,true,false,false,false] #[true,true,true,true,true,false,true,true,true,true,false,false] rfl rfl rfl rfl (two_of HT_.out (by kernel_rfl)) (by decide) (by decide) (fun K hK=>?_) (fun K hK=>?_)
        ·skip
         refine Kd.Ue k47 (w0:=w) w.heap.size (by rfl) (.tmp 86) (.tmp 87) 36 47 (.agg #[(.int .i64 0),(.int .i64 0),(.int .i64 0),(.int .i64 0)]) 32 rfl Try.underlying36 Ve rfl (by decide) (by omega) v628 y627 t624 _ _ _ (fun k_=>some k_≠(.slice Ao48 t624.length co48:Value).ownBlock) (fun _=>False) rfl rfl ?aO ?aR (fun _ _ h=>h) (fun _ h=>h.elim) ?aF ?aB ?aS ?aL ?_
         (case aR=>repeat (first|exact (Kd.R_reads' HO626.out).2.2|(with_reducible refine Kd.Xm ?_ _)|(with_reducible refine Kd.Xn ?_ _)|(with_reducible refine Kd.Xv ?_)))
         (case aB=>exact (bl_ HB))
         (case aF=>exact (fun k_ hk=>Kd.fresh' (Kd.Zx (Kd.ra_ (HO626.out))) k_ hk))
         (case aO=>exact (Kd.ra_ (Kd.Xq HO629.out (fun _ hk=>hk.2))))
         (case aS=>exact (Xd (bl_ HB)))
         (case aL=>have:=LMc43.out;omega)
         intro v631 w52 ho hb hg hat;rw [← Ny630.out] at ho;have n0_:=Xa.mk (Vb (g:=gb587) (o:=.cells #[.int .i64 a0_0,.int .i64 a0_1,.int .i64 a0_2,.int .i64 a0_3,.slice A0_4 l0_4.length c0_4,.slice A0_5 l0_5.length c0_5] 82 (0,0)) (ba_ BK587) hg (Kd.R_ne HO629.out BK587.out (by decide)));have n1_:=Xa.mk (Kd.Yy (ok:=(fun _=>True)) (Kd.ra_ (HO626.out)) hg hat);have n2_:=Xa.mk (hb);have n3_:=Xa.mk (ho);clear BK587;clear HO626;clear HB;clear HO629;have BK587:=n0_;have HO626:=n1_;have HB:=n2_;have HO632:=n3_;clear n0_ n1_ n2_ n3_;clear ho hb hg hat;refine hK.out _ _ ⟨(Yl BK587.out 0).trans rfl,(Yl BK587.out 1).trans rfl,(Yl BK587.out 2).trans rfl,(Yl BK587.out 3).trans rfl,(Yl BK587.out 4).trans rfl,(Yl BK587.out 5).trans rfl⟩ (fun hHeld=>?_)
         clear hK K;refine Uz (a':=?_) ?_ ?_
         rotate_left
         ·show Act.put _ (some 88) _=_
          simp only [Act.put,List.setIfInBounds_toArray,List.set_cons_zero,List.set_cons_succ,Xz,Ya];rfl
         refine one_ (i:=9) (N:=some 92) #[true,true,true,true,true,true,true,true,true,true,false,false] rfl rfl (one_of HT_.out (by kernel_rfl)) (by decide) (fun K hK=>?_)
         refine Kd.R_lit_step k47 _ 47 ?hg (N:=92) ?hd (xs:=([(⟨9,a0_1,0,0⟩:S47)]:List (S47))) (inner:=[.int .i64 9,.int .i64 a0_1,.int .i64 0,.int .i64 0]) (ok:=fun _=>True) (okp:=fun _=>True) ?hr ?hp (fun _ hk=>hk) trivial (Below.refl _ _) (Nat.le_refl _) (by simp) ?_;(case hd=>rfl);(case hg=>rfl);(case hr=>first|(go_simp;done)|(go_simp;rfl));(case hp=>exact (Yn.c4 (show Kd.M k47 _ _ _ (⟨9,a0_1,0,0⟩:S47) [.int .i64 9,.int .i64 a0_1,.int .i64 0,.int .i64 0] from (Us _ _ _ (⟨9,a0_1,0,0⟩:S47) )) (Yn.none _ _)))
         intro v634 w53 ho54 hb hg_ hnew_;clear hg_ hnew_
         (first|rw [← Ny633.out] at ho54|(simp only [Int.reduceToNat] at ho54;rw [← Ny633.out] at ho54))
         have n0_:=Xa.mk (Kd.R_elder' (Kd.ra_ (HO626.out)) (Kd.Yr ho54) hb);have n1_:=Xa.mk (Kd.R_elder' (Kd.ra_ (HO632.out)) (Kd.Yr ho54) hb);have n2_:=Xa.mk (Kd.Ye (Kd.R_new' (Kd.R_new' ho54 (Kd.Zx (Kd.ra_ (HO626.out)))) (Kd.Zx (Kd.ra_ (HO632.out)))) (Xd (bl_ HB)));have n3_:=Xa.mk (Zv (g:=gb587) (o:=.cells #[.int .i64 a0_0,.int .i64 a0_1,.int .i64 a0_2,.int .i64 a0_3,.slice A0_4 l0_4.length c0_4,.slice A0_5 l0_5.length c0_5] 82 (0,0)) (ba_ BK587) hb);have n4_:=Xa.mk (Xc (bl_ HB) hb);clear HO626;clear HO632;clear BK587;clear HB;have HO626:=n0_;have HO632:=n1_;have HO635:=n2_;have BK587:=n3_;have HB:=n4_;clear n0_ n1_ n2_ n3_ n4_;clear hb ho54;refine hK.out _ _ ⟨(Yl BK587.out 0).trans rfl,(Yl BK587.out 1).trans rfl,(Yl BK587.out 2).trans rfl,(Yl BK587.out 3).trans rfl,(Yl BK587.out 4).trans rfl,(Yl BK587.out 5).trans rfl⟩ (fun hHeld=>?_)
         clear hK K;refine Uz (a':=?_) ?_ ?_
         rotate_left
         ·show Act.put _ (some 92) _=_
          simp only [Act.put,List.setIfInBounds_toArray,List.set_cons_zero,List.set_cons_succ,Xz,Ya];rfl
         exact Uz (by simp only [putAll,Act.put,List.setIfInBounds_toArray,List.set_cons_zero,List.set_cons_succ]) (hCont (v628,v631,v634) _ ⟨hHeld,(Kd.ra_ (Kd.Xq HO626.out (fun _ hk=>⟨hk.1.2,hk.2⟩))),(Kd.ra_ (HO632.out)),(Kd.ra_ (Kd.Xq HO635.out (fun _ hk=>⟨hk.1.2,hk.2⟩))),(ba_ BK587),(bl_ HB)⟩)
        ·skip
         refine Kd.R_lit_step k47 _ 47 ?hg (N:=92) ?hd (xs:=([(⟨9,a0_1,0,0⟩:S47)]:List (S47))) (inner:=[.int .i64 9,.int .i64 a0_1,.int .i64 0,.int .i64 0]) (ok:=fun _=>True) (okp:=fun _=>True) ?hr ?hp (fun _ hk=>hk) trivial (Below.refl _ _) (Nat.le_refl _) (by simp) ?_;(case hd=>rfl);(case hg=>rfl);(case hr=>first|(go_simp;done)|(go_simp;rfl));(case hp=>exact (Yn.c4 (show Kd.M k47 _ _ _ (⟨9,a0_1,0,0⟩:S47) [.int .i64 9,.int .i64 a0_1,.int .i64 0,.int .i64 0] from (Us _ _ _ (⟨9,a0_1,0,0⟩:S47) )) (Yn.none _ _)))
         intro v634 w52 ho53 hb hg_ hnew_;clear hg_ hnew_
         (first|rw [← Ny633.out] at ho53|(simp only [Int.reduceToNat] at ho53;rw [← Ny633.out] at ho53))
         have n0_:=Xa.mk (Kd.R_elder' (Kd.ra_ (HO626.out)) (Kd.Yr ho53) hb);have n1_:=Xa.mk (Kd.R_elder' (Kd.ra_ (HO629.out)) (Kd.Yr ho53) hb);have n2_:=Xa.mk (Kd.Ye (Kd.R_new' (Kd.R_new' ho53 (Kd.Zx (Kd.ra_ (HO626.out)))) (Kd.Zx (Kd.ra_ (HO629.out)))) (Xd (bl_ HB)));have n3_:=Xa.mk (Zv (g:=gb587) (o:=.cells #[.int .i64 a0_0,.int .i64 a0_1,.int .i64 a0_2,.int .i64 a0_3,.slice A0_4 l0_4.length c0_4,.slice A0_5 l0_5.length c0_5] 82 (0,0)) (ba_ BK587) hb);have n4_:=Xa.mk (Xc (bl_ HB) hb);clear HO626;clear HO629;clear BK587;clear HB;have HO626:=n0_;have HO629:=n1_;have HO635:=n2_;have BK587:=n3_;have HB:=n4_;clear n0_ n1_ n2_ n3_ n4_;clear hb ho53;refine hK.out _ _ ⟨(Yl BK587.out 0).trans rfl,(Yl BK587.out 1).trans rfl,(Yl BK587.out 2).trans rfl,(Yl BK587.out 3).trans rfl,(Yl BK587.out 4).trans rfl,(Yl BK587.out 5).trans rfl⟩ (fun hHeld=>?_)
         clear hK K;refine Uz (a':=?_) ?_ ?_
         rotate_left
         ·show Act.put _ (some 92) _=_
          simp only [Act.put,List.setIfInBounds_toArray,List.set_cons_zero,List.set_cons_succ,Xz,Ya];rfl
         refine one_ (i:=5) (N:=some 88) #[true,true,true,true,true,true,true,true,true,true,false,false] rfl rfl (one_of HT_.out (by kernel_rfl)) (by decide) (fun K hK=>?_)
         refine Kd.Ue k47 (w0:=w) w.heap.size (by rfl) (.tmp 86) (.tmp 87) 36 47 (.agg #[(.int .i64 0),(.int .i64 0),(.int .i64 0),(.int .i64 0)]) 32 rfl Try.underlying36 Ve rfl (by decide) (by omega) v628 y627 t624 _ _ _ (fun k_=>some k_≠(.slice Ao48 t624.length co48:Value).ownBlock∧some k_≠(v634:Value).ownBlock) (fun _=>False) rfl rfl ?aO ?aR (fun _ _ h=>h) (fun _ h=>h.elim) ?aF ?aB ?aS ?aL ?_
         (case aR=>repeat (first|exact (Kd.R_reads' HO626.out).2.2|(with_reducible refine Kd.Xm ?_ _)|(with_reducible refine Kd.Xn ?_ _)|(with_reducible refine Kd.Xv ?_)))
         (case aB=>exact (bl_ HB))
         (case aF=>exact (fun k_ hk=>⟨Kd.fresh' (Kd.Zx (Kd.ra_ (HO626.out))) k_ hk,Kd.fresh' (Kd.Zx (Kd.ra_ (HO635.out))) k_ hk⟩))
         (case aO=>exact (Kd.ra_ (Kd.Xq HO629.out (fun _ hk=>⟨hk.1.2,hk.2⟩))))
         (case aS=>exact (Xd (bl_ HB)))
         (case aL=>have:=LMc43.out;omega)
         intro v631 w54 ho hb hg hat;rw [← Ny630.out] at ho;have n0_:=Xa.mk (Vb (g:=gb587) (o:=.cells #[.int .i64 a0_0,.int .i64 a0_1,.int .i64 a0_2,.int .i64 a0_3,.slice A0_4 l0_4.length c0_4,.slice A0_5 l0_5.length c0_5] 82 (0,0)) (ba_ BK587) hg (Kd.R_ne HO629.out BK587.out (by decide)));have n1_:=Xa.mk (Kd.Yy (ok:=(fun k_=>some k_≠(v634:Value).ownBlock)) (Kd.ra_ (Kd.Xq HO626.out (fun _ hk=>⟨hk.2,hk.1.2⟩))) hg hat);have n2_:=Xa.mk (Kd.Yy (ok:=(fun k_=>some k_≠(.slice Ao48 t624.length co48:Value).ownBlock)) (Kd.ra_ (Kd.Xq HO635.out (fun _ hk=>⟨hk.1.2,hk.2⟩))) hg hat);have n3_:=Xa.mk (hb);have n4_:=Xa.mk (ho);clear BK587;clear HO626;clear HO635;clear HB;clear HO629;have BK587:=n0_;have HO626:=n1_;have HO635:=n2_;have HB:=n3_;have HO632:=n4_;clear n0_ n1_ n2_ n3_ n4_;clear ho hb hg hat;refine hK.out _ _ ⟨(Yl BK587.out 0).trans rfl,(Yl BK587.out 1).trans rfl,(Yl BK587.out 2).trans rfl,(Yl BK587.out 3).trans rfl,(Yl BK587.out 4).trans rfl,(Yl BK587.out 5).trans rfl⟩ (fun hHeld=>?_)
         clear hK K;refine Uz (a':=?_) ?_ ?_
         rotate_left
         ·show Act.put _ (some 88) _=_
          simp only [Act.put,List.setIfInBounds_toArray,List.set_cons_zero,List.set_cons_succ,Xz,Ya];rfl
         exact Uz (by simp only [putAll,Act.put,List.setIfInBounds_toArray,List.set_cons_zero,List.set_cons_succ]) (hCont (v628,v631,v634) _ ⟨hHeld,(Kd.ra_ (Kd.Xq HO626.out (fun _ hk=>⟨hk.2,hk.1⟩))),(Kd.ra_ (HO632.out)),(Kd.ra_ (HO635.out)),(ba_ BK587),(bl_ HB)⟩)
       ·skip
        refine Kd.R_lit_step k47 _ 47 ?hg (N:=92) ?hd (xs:=([(⟨9,a0_1,0,0⟩:S47)]:List (S47))) (inner:=[.int .i64 9,.int .i64 a0_1,.int .i64 0,.int .i64 0]) (ok:=fun _=>True) (okp:=fun _=>True) ?hr ?hp (fun _ hk=>hk) trivial (Below.refl _ _) (Nat.le_refl _) (by simp) ?_;(case hd=>rfl);(case hg=>rfl);(case hr=>first|(go_simp;done)|(go_simp;rfl));(case hp=>exact (Yn.c4 (show Kd.M k47 _ _ _ (⟨9,a0_1,0,0⟩:S47) [.int .i64 9,.int .i64 a0_1,.int .i64 0,.int .i64 0] from (Us _ _ _ (⟨9,a0_1,0,0⟩:S47) )) (Yn.none _ _)))
        intro v634 w50 ho51 hb hg_ hnew_;clear hg_ hnew_
        (first|rw [← Ny633.out] at ho51|(simp only [Int.reduceToNat] at ho51;rw [← Ny633.out] at ho51))
        have n0_:=Xa.mk (Kd.R_elder' (Kd.ra_ (HO626.out)) (Kd.Yr ho51) hb);have n1_:=Xa.mk (Kd.Ye (Kd.R_new' ho51 (Kd.Zx (Kd.ra_ (HO626.out)))) (Xd (bl_ HB)));have n2_:=Xa.mk (Zv (g:=gb587) (o:=.cells #[.int .i64 a0_0,.int .i64 a0_1,.int .i64 a0_2,.int .i64 a0_3,.slice A0_4 l0_4.length c0_4,.slice A0_5 l0_5.length c0_5] 82 (0,0)) (ba_ BK587) hb);have n3_:=Xa.mk (Xc (bl_ HB) hb);clear HO626;clear BK587;clear HB;have HO626:=n0_;have HO635:=n1_;have BK587:=n2_;have HB:=n3_;clear n0_ n1_ n2_ n3_;clear hb ho51;refine hK.out _ _ ⟨(Yl BK587.out 0).trans rfl,(Yl BK587.out 1).trans rfl,(Yl BK587.out 2).trans rfl,(Yl BK587.out 3).trans rfl,(Yl BK587.out 4).trans rfl,(Yl BK587.out 5).trans rfl⟩ (fun hHeld=>?_)
        clear hK K;refine Uz (a':=?_) ?_ ?_
        rotate_left
        ·show Act.put _ (some 92) _=_
         simp only [Act.put,List.setIfInBounds_toArray,List.set_cons_zero,List.set_cons_succ,Xz,Ya];rfl
        refine one_ (i:=3) (N:=some 86) #[true,true,true,true,true,false,true,true,true,true,false,false] rfl rfl (one_of HT_.out (by kernel_rfl)) (by decide) (fun K hK=>?_)
        refine Kd.R_lit_step k47 _ 47 ?hg (N:=86) ?hd (xs:=([(⟨8,a0_1,0,0⟩:S47)]:List (S47))) (inner:=[.int .i64 8,.int .i64 a0_1,.int .i64 0,.int .i64 0]) (ok:=fun _=>True) (okp:=fun _=>True) ?hr ?hp (fun _ hk=>hk) trivial (Below.refl _ _) (Nat.le_refl _) (by simp) ?_;(case hd=>rfl);(case hg=>rfl);(case hr=>first|(go_simp;done)|(go_simp;rfl));(case hp=>exact (Yn.c4 (show Kd.M k47 _ _ _ (⟨8,a0_1,0,0⟩:S47) [.int .i64 8,.int .i64 a0_1,.int .i64 0,.int .i64 0] from (Us _ _ _ (⟨8,a0_1,0,0⟩:S47) )) (Yn.none _ _)))
        intro v628 w52 ho53 hb hg_ hnew_;clear hg_ hnew_
        (first|rw [← Ny627.out] at ho53|(simp only [Int.reduceToNat] at ho53;rw [← Ny627.out] at ho53))
        have n0_:=Xa.mk (Kd.R_elder' (Kd.ra_ (HO626.out)) (Kd.Yr ho53) hb);have n1_:=Xa.mk (Kd.R_elder' (Kd.ra_ (HO635.out)) (Kd.Yr ho53) hb);have n2_:=Xa.mk (Kd.Ye (Kd.R_new' (Kd.R_new' ho53 (Kd.Zx (Kd.ra_ (HO626.out)))) (Kd.Zx (Kd.ra_ (HO635.out)))) (Xd (bl_ HB)));have n3_:=Xa.mk (Zv (g:=gb587) (o:=.cells #[.int .i64 a0_0,.int .i64 a0_1,.int .i64 a0_2,.int .i64 a0_3,.slice A0_4 l0_4.length c0_4,.slice A0_5 l0_5.length c0_5] 82 (0,0)) (ba_ BK587) hb);have n4_:=Xa.mk (Xc (bl_ HB) hb);clear HO626;clear HO635;clear BK587;clear HB;have HO626:=n0_;have HO635:=n1_;have HO629:=n2_;have BK587:=n3_;have HB:=n4_;clear n0_ n1_ n2_ n3_ n4_;clear hb ho53;refine hK.out _ _ ⟨(Yl BK587.out 0).trans rfl,(Yl BK587.out 1).trans rfl,(Yl BK587.out 2).trans rfl,(Yl BK587.out 3).trans rfl,(Yl BK587.out 4).trans rfl,(Yl BK587.out 5).trans rfl⟩ (fun hHeld=>?_)
        clear hK K;refine Uz (a':=?_) ?_ ?_
        rotate_left
        ·show Act.put _ (some 86) _=_
         simp only [Act.put,List.setIfInBounds_toArray,List.set_cons_zero,List.set_cons_succ,Xz,Ya];rfl
        refine one_ (i:=5) (N:=some 88) #[true,true,true,true,true,true,true,true,true,true,false,false] rfl rfl (one_of HT_.out (by kernel_rfl)) (by decide) (fun K hK=>?_)
        refine Kd.Ue k47 (w0:=w) w.heap.size (by rfl) (.tmp 86) (.tmp 87) 36 47 (.agg #[(.int .i64 0),(.int .i64 0),(.int .i64 0),(.int .i64 0)]) 32 rfl Try.underlying36 Ve rfl (by decide) (by omega) v628 y627 t624 _ _ _ (fun k_=>some k_≠(.slice Ao48 t624.length co48:Value).ownBlock∧some k_≠(v634:Value).ownBlock) (fun _=>False) rfl rfl ?aO ?aR (fun _ _ h=>h) (fun _ h=>h.elim) ?aF ?aB ?aS ?aL ?_
        (case aR=>repeat (first|exact (Kd.R_reads' HO626.out).2.2|(with_reducible refine Kd.Xm ?_ _)|(with_reducible refine Kd.Xn ?_ _)|(with_reducible refine Kd.Xv ?_)))
        (case aB=>exact (bl_ HB))
        (case aF=>exact (fun k_ hk=>⟨Kd.fresh' (Kd.Zx (Kd.ra_ (HO626.out))) k_ hk,Kd.fresh' (Kd.Zx (Kd.ra_ (HO635.out))) k_ hk⟩))
        (case aO=>exact (Kd.ra_ (Kd.Xq HO629.out (fun _ hk=>⟨hk.1.2,hk.2⟩))))
        (case aS=>exact (Xd (bl_ HB)))
        (case aL=>have:=LMc43.out;omega)
        intro v631 w54 ho hb hg hat;rw [← Ny630.out] at ho;have n0_:=Xa.mk (Vb (g:=gb587) (o:=.cells #[.int .i64 a0_0,.int .i64 a0_1,.int .i64 a0_2,.int .i64 a0_3,.slice A0_4 l0_4.length c0_4,.slice A0_5 l0_5.length c0_5] 82 (0,0)) (ba_ BK587) hg (Kd.R_ne HO629.out BK587.out (by decide)));have n1_:=Xa.mk (Kd.Yy (ok:=(fun k_=>some k_≠(v634:Value).ownBlock)) (Kd.ra_ (Kd.Xq HO626.out (fun _ hk=>⟨hk.1.2,hk.2⟩))) hg hat);have n2_:=Xa.mk (Kd.Yy (ok:=(fun k_=>some k_≠(.slice Ao48 t624.length co48:Value).ownBlock)) (Kd.ra_ (Kd.Xq HO635.out (fun _ hk=>⟨hk.1.2,hk.2⟩))) hg hat);have n3_:=Xa.mk (hb);have n4_:=Xa.mk (ho);clear BK587;clear HO626;clear HO635;clear HB;clear HO629;have BK587:=n0_;have HO626:=n1_;have HO635:=n2_;have HB:=n3_;have HO632:=n4_;clear n0_ n1_ n2_ n3_ n4_;clear ho hb hg hat;refine hK.out _ _ ⟨(Yl BK587.out 0).trans rfl,(Yl BK587.out 1).trans rfl,(Yl BK587.out 2).trans rfl,(Yl BK587.out 3).trans rfl,(Yl BK587.out 4).trans rfl,(Yl BK587.out 5).trans rfl⟩ (fun hHeld=>?_)
        clear hK K;refine Uz (a':=?_) ?_ ?_
        rotate_left
        ·show Act.put _ (some 88) _=_
         simp only [Act.put,List.setIfInBounds_toArray,List.set_cons_zero,List.set_cons_succ,Xz,Ya];rfl
        exact Uz (by simp only [putAll,Act.put,List.setIfInBounds_toArray,List.set_cons_zero,List.set_cons_succ]) (hCont (v628,v631,v634) _ ⟨hHeld,(Kd.ra_ (Kd.Xq HO626.out (fun _ hk=>⟨hk.2,hk.1⟩))),(Kd.ra_ (HO632.out)),(Kd.ra_ (HO635.out)),(ba_ BK587),(bl_ HB)⟩)
      rintro ⟨v628,v631,v634⟩ w55 ⟨hS_,h0_,h1_,h2_,h3_,h4_⟩
      have n0_:Xa (Kd.R k47 47 w55 w.heap.size (fun k_=>some k_≠(v631:Value).ownBlock∧some k_≠(v634:Value).ownBlock) (.slice Ao48 t624.length co48) t624):=⟨h0_⟩;have n1_:Xa (Kd.R k47 47 w55 w.heap.size (fun k_=>some k_≠(.slice Ao48 t624.length co48:Value).ownBlock∧some k_≠(v634:Value).ownBlock) v631 y630):=⟨h1_⟩;have n2_:Xa (Kd.R k47 47 w55 w.heap.size (fun k_=>some k_≠(.slice Ao48 t624.length co48:Value).ownBlock∧some k_≠(v631:Value).ownBlock) v634 y633):=⟨h2_⟩;have n3_:Xa (w55.heap[gb587]?=some (.cells #[.int .i64 a0_0,.int .i64 a0_1,.int .i64 a0_2,.int .i64 a0_3,.slice A0_4 l0_4.length c0_4,.slice A0_5 l0_5.length c0_5] 82 (0,0))):=⟨h3_⟩;have n4_:Xa (Below w.heap.size w w55):=⟨h4_⟩;clear HO626;clear BK587;clear HB;clear h0_ h1_ h2_ h3_ h4_;have HO626:=n0_;have HO632:=n1_;have HO635:=n2_;have BK587:=n3_;have HB:=n4_;clear n0_ n1_ n2_ n3_ n4_;have hHeld:w55.cell? ⟨gb587,0,none⟩=some (.int .i64 a0_0)∧w55.cell? ⟨gb587,1,none⟩=some (.int .i64 a0_1)∧w55.cell? ⟨gb587,2,none⟩=some (.int .i64 a0_2)∧w55.cell? ⟨gb587,3,none⟩=some (.int .i64 a0_3)∧w55.cell? ⟨gb587,4,none⟩=some (.slice A0_4 l0_4.length c0_4)∧w55.cell? ⟨gb587,5,none⟩=some (.slice A0_5 l0_5.length c0_5):=hS_;obtain ⟨Ao57,co57,eo57⟩:=Kd.Yo HO635.out
      (first|subst eo57|(injection eo57 with f1_ f2_ f3_;have f4_:=f1_.symm;have f5_:=f3_.symm;clear f1_ f2_ f3_;subst f4_;subst f5_))
      refine Uz (a':=?_) ?_ ?_
      rotate_left
      ·simp only [putAll,Act.put,List.setIfInBounds_toArray,List.set_cons_zero,List.set_cons_succ];rfl
      refine one_ (i:=10) (N:=some 93) #[true,true,true,true,true,true,true,true,true,true,true,false] rfl rfl (one_of HT_.out (by kernel_rfl)) (by decide) (fun K hK=>?_)
      refine Kd.Ue k47 (w0:=w) w.heap.size (by rfl) (.tmp 88) (.tmp 92) 36 47 (.agg #[(.int .i64 0),(.int .i64 0),(.int .i64 0),(.int .i64 0)]) 32 rfl Try.underlying36 Ve rfl (by decide) (by omega) v631 y630 y633 _ _ _ (fun k_=>some k_≠(.slice Ao48 t624.length co48:Value).ownBlock∧some k_≠(.slice Ao57 y633.length co57:Value).ownBlock) (fun _=>False) rfl rfl ?aO ?aR (fun _ _ h=>h) (fun _ h=>h.elim) ?aF ?aB ?aS ?aL ?_
      (case aR=>repeat (first|exact (Kd.R_reads' HO635.out).2.2|(with_reducible refine Kd.Xm ?_ _)|(with_reducible refine Kd.Xn ?_ _)|(with_reducible refine Kd.Xv ?_)))
      (case aB=>exact (bl_ HB))
      (case aF=>exact (fun k_ hk=>⟨Kd.fresh' (Kd.Zx (Kd.ra_ (HO626.out))) k_ hk,Kd.fresh' (Kd.Zx (Kd.ra_ (HO635.out))) k_ hk⟩))
      (case aO=>exact (Kd.ra_ (HO632.out)))
      (case aS=>exact (Xd (bl_ HB)))
      (case aL=>have:=LMc44.out;omega)
      intro v637 w56 ho hb hg hat;rw [← Ny636.out] at ho;have n0_:=Xa.mk (Vb (g:=gb587) (o:=.cells #[.int .i64 a0_0,.int .i64 a0_1,.int .i64 a0_2,.int .i64 a0_3,.slice A0_4 l0_4.length c0_4,.slice A0_5 l0_5.length c0_5] 82 (0,0)) (ba_ BK587) hg (Kd.R_ne HO632.out BK587.out (by decide)));have n1_:=Xa.mk (Kd.Yy (ok:=(fun k_=>some k_≠(.slice Ao57 y633.length co57:Value).ownBlock)) (Kd.ra_ (Kd.Xq HO626.out (fun _ hk=>⟨hk.2,hk.1⟩))) hg hat);have n2_:=Xa.mk (Kd.Yy (ok:=(fun k_=>some k_≠(.slice Ao48 t624.length co48:Value).ownBlock)) (Kd.ra_ (HO635.out)) hg hat);have n3_:=Xa.mk (hb);have n4_:=Xa.mk (ho);clear BK587;clear HO626;clear HO635;clear HB;clear HO632;have BK587:=n0_;have HO626:=n1_;have HO635:=n2_;have HB:=n3_;have HO638:=n4_;clear n0_ n1_ n2_ n3_ n4_;clear ho hb hg hat;refine hK.out _ _ ⟨(Yl BK587.out 0).trans rfl,(Yl BK587.out 1).trans rfl,(Yl BK587.out 2).trans rfl,(Yl BK587.out 3).trans rfl,(Yl BK587.out 4).trans rfl,(Yl BK587.out 5).trans rfl⟩ (fun hHeld=>?_)
      clear hK K;refine Uz (a':=?_) ?_ ?_
      rotate_left
      ·show Act.put _ (some 93) _=_
       simp only [Act.put,List.setIfInBounds_toArray,List.set_cons_zero,List.set_cons_succ,Xz,Ya];rfl
      refine Zg (i:=11) (N:=some 4) (v:=?_) (a':=?_) #[true,true,true,true,true,true,true,true,true,true,true,true] rfl rfl (Yw HT_.out (by kernel_rfl)) (fun _ _ _ h=>h) (Or.inl ⟨by rfl,?_⟩) ?_ ?_
      rotate_left
      ·intro w';go_simp
       with_reducible rfl
      rotate_left
      ·simp only [Act.put,List.setIfInBounds_toArray,List.set_cons_zero,List.set_cons_succ,Xz,Ya];rfl
      refine done_ (done_of HT_.out (by kernel_rfl)) ?_
      try go_wp2
      go_ret
      exact ⟨_,rf_,Kd.ra_ (Kd.Xq HO638.out (fun _ hk=>trivial)),bl_ HB⟩
     ·rw [if_neg c44] at H;exact absurd H (by simp)
    ·rw [if_neg c43] at H;exact absurd H (by simp)
   ·rw [if_neg c41] at H;have c41b0:(a0_0 == 8)=false:=beq_eq_false_iff_ne.mpr c41;have c41b1:(a0_0 != 8)=true:=bne_iff_ne.mpr c41;have HC58:=Xa.mk H;clear H
    go_enter Try.func96,Try.ntmps96
    go_upto_if 94 with (first|((with_reducible refine Yc (N:=2) rfl ?_);refine Yv ?hg (N:=2) ?hd (cs:=#[.int .i64 a0_0,.int .i64 a0_1,.int .i64 a0_2,.int .i64 a0_3,.slice A0_4 l0_4.length c0_4,.slice A0_5 l0_5.length c0_5]) (t:=82) ?hr ?_;(case hd=>rfl);(case hg=>rfl);(case hr=>first|(go_simp;done)|(go_simp;rfl));intro gb587 hg w59 hbox hb;have n0_:=Xa.mk (Xc (bl_ HB) hb);have n1_:=Xa.mk (hbox);have n2_:=Xa.mk ((by rw [hg];exact (Xd (bl_ HB)):w.heap.size≤gb587));have n3_:=Xa.mk ((by rw [hg];exact (Xd (bl_ HB)):w.heap.size≤gb587));clear HB;have HB:=n0_;have BK587:=n1_;have GW587:=n2_;have GE587:=n3_;clear n0_ n1_ n2_ n3_;clear hb hbox hg;obtain ⟨hcz60_0,hcz60_1,hcz60_2,hcz60_3,hcz60_4,hcz60_5⟩:=Ut BK587.out;obtain ⟨hfz60_0,hfz60_1,hfz60_2,hfz60_3,hfz60_4,hfz60_5⟩:=Uu BK587.out))
    (try simp only [Act.put,List.setIfInBounds_toArray,List.set_cons_zero,List.set_cons_succ])
    go_cut [94] (fun v94 wc=>∃ (kq:Nat) (x94_57:Bool),v94=.bool x94_57∧Xa (Zd.j0 kq a0_0 x94_57 a0_0 a0_1 a0_2 a0_3 l0_4 l0_5=some r)∧Xa (kq≤k)∧Xa (wc.heap[gb587]?=some (.cells #[.int .i64 a0_0,.int .i64 a0_1,.int .i64 a0_2,.int .i64 a0_3,(.slice A0_4 l0_4.length c0_4),(.slice A0_5 l0_5.length c0_5)] 82 (0,0)))∧Xa (Below w.heap.size w wc))
    case first=>
     have H:=HC58.out;clear HC58;by_cases c61:a0_0=1
     ·rw [if_pos c61] at H;have c61b0:(a0_0 == 1)=true:=beq_iff_eq.mpr c61;have c61b1:(a0_0 != 1)=false:=bne_eq_false_iff_eq.mpr c61;clear c61
      (first|rw [c61b0]|(simp only [Xz,Ya];rw [c61b0])|skip)
      have H':=Xa.mk H;clear H;go_wp2
      go_meet
      case rel=>exact ⟨_,((a0_0 == 1)),(by first|rfl|(simp;done)|(simp [*];done)),H',⟨by first|omega|exact Nat.le_refl _⟩,⟨ba_ BK587⟩,⟨bl_ HB⟩⟩
     ·rw [if_neg c61] at H;have c61b0:(a0_0 == 1)=false:=beq_eq_false_iff_ne.mpr c61;have c61b1:(a0_0 != 1)=true:=bne_iff_ne.mpr c61
      (first|rw [c61b0]|(simp only [Xz,Ya];rw [c61b0])|skip)
      by_cases c62:a0_0=2
      ·rw [if_pos c62] at H;have c62b0:(a0_0 == 2)=true:=beq_iff_eq.mpr c62;have c62b1:(a0_0 != 2)=false:=bne_eq_false_iff_eq.mpr c62;clear c62;have H':=Xa.mk H;clear H;go_wp2
       go_meet
       case rel=>exact ⟨_,((a0_0 == 2)),(by first|rfl|(simp;done)|(simp [*];done)),H',⟨by first|omega|exact Nat.le_refl _⟩,⟨ba_ BK587⟩,⟨bl_ HB⟩⟩
      ·rw [if_neg c62] at H;have c62b0:(a0_0 == 2)=false:=beq_eq_false_iff_ne.mpr c62;have c62b1:(a0_0 != 2)=true:=bne_iff_ne.mpr c62;by_cases c63:a0_0=3
       ·rw [if_pos c63] at H;have c63b0:(a0_0 == 3)=true:=beq_iff_eq.mpr c63;have c63b1:(a0_0 != 3)=false:=bne_eq_false_iff_eq.mpr c63;clear c63;have H':=Xa.mk H;clear H;go_wp2
        go_meet
        case rel=>exact ⟨_,((a0_0 == 3)),(by first|rfl|(simp;done)|(simp [*];done)),H',⟨by first|omega|exact Nat.le_refl _⟩,⟨ba_ BK587⟩,⟨bl_ HB⟩⟩
       ·rw [if_neg c63] at H;have c63b0:(a0_0 == 3)=false:=beq_eq_false_iff_ne.mpr c63;have c63b1:(a0_0 != 3)=true:=bne_iff_ne.mpr c63;by_cases c64:a0_0=4
        ·rw [if_pos c64] at H;have c64b0:(a0_0 == 4)=true:=beq_iff_eq.mpr c64;have c64b1:(a0_0 != 4)=false:=bne_eq_false_iff_eq.mpr c64;clear c64;have H':=Xa.mk H;clear H;go_wp2
         go_meet
         case rel=>exact ⟨_,((a0_0 == 4)),(by first|rfl|(simp;done)|(simp [*];done)),H',⟨by first|omega|exact Nat.le_refl _⟩,⟨ba_ BK587⟩,⟨bl_ HB⟩⟩
        ·rw [if_neg c64] at H;have c64b0:(a0_0 == 4)=false:=beq_eq_false_iff_ne.mpr c64;have c64b1:(a0_0 != 4)=true:=bne_iff_ne.mpr c64;have H':=Xa.mk H;clear H;go_wp2
         go_meet
         case rel=>exact ⟨_,((a0_0 == 5)),(by first|rfl|(simp;done)|(simp [*];done)),H',⟨by first|omega|exact Nat.le_refl _⟩,⟨ba_ BK587⟩,⟨bl_ HB⟩⟩
    case rest=>
     clear HC58
     try clear c2
     try clear p2
     try clear c3
     try clear c3b0
     try clear c3b1
     try clear c4
     try clear c6
     try clear p6
     try clear c7
     try clear c8
     try clear c9
     try clear c25
     try clear c25b0
     try clear c25b1
     try clear c27
     try clear c28
     try clear c41
     try clear c41b0
     try clear c41b1
     try clear c43
     try clear c44
     try clear c61
     try clear c61b0
     try clear c61b1
     try clear c62
     try clear c62b0
     try clear c62b1
     try clear c63
     try clear c63b0
     try clear c63b1
     try clear c64
     try clear c64b0
     try clear c64b1
     try clear p64
     try clear hcz10_0
     try clear hcz10_1
     try clear hcz10_2
     try clear hcz10_3
     try clear hcz10_4
     try clear hcz10_5
     try clear hcz12_0
     try clear hcz12_1
     try clear hcz12_2
     try clear hcz12_3
     try clear hcz12_4
     try clear hcz12_5
     try clear hcz15_0
     try clear hcz15_1
     try clear hcz15_2
     try clear hcz15_3
     try clear hcz15_4
     try clear hcz15_5
     try clear hcz30_0
     try clear hcz30_1
     try clear hcz30_2
     try clear hcz30_3
     try clear hcz30_4
     try clear hcz30_5
     try clear hcz32_0
     try clear hcz32_1
     try clear hcz32_2
     try clear hcz32_3
     try clear hcz32_4
     try clear hcz32_5
     try clear hcz46_0
     try clear hcz46_1
     try clear hcz46_2
     try clear hcz46_3
     try clear hcz46_4
     try clear hcz46_5
     try clear hcz60_0
     try clear hcz60_1
     try clear hcz60_2
     try clear hcz60_3
     try clear hcz60_4
     try clear hcz60_5
     try clear hfz10_0
     try clear hfz10_1
     try clear hfz10_2
     try clear hfz10_3
     try clear hfz10_4
     try clear hfz10_5
     try clear hfz12_0
     try clear hfz12_1
     try clear hfz12_2
     try clear hfz12_3
     try clear hfz12_4
     try clear hfz12_5
     try clear hfz15_0
     try clear hfz15_1
     try clear hfz15_2
     try clear hfz15_3
     try clear hfz15_4
     try clear hfz15_5
     try clear hfz30_0
     try clear hfz30_1
     try clear hfz30_2
     try clear hfz30_3
     try clear hfz30_4
     try clear hfz30_5
     try clear hfz32_0
     try clear hfz32_1
     try clear hfz32_2
     try clear hfz32_3
     try clear hfz32_4
     try clear hfz32_5
     try clear hfz46_0
     try clear hfz46_1
     try clear hfz46_2
     try clear hfz46_3
     try clear hfz46_4
     try clear hfz46_5
     try clear hfz60_0
     try clear hfz60_1
     try clear hfz60_2
     try clear hfz60_3
     try clear hfz60_4
     try clear hfz60_5
     obtain ⟨kq,x94_57,rfl,HA,HJ57,BK587,HB⟩:=hcut
     cases kq with
     |zero=>exact absurd HA.out (by simp [Zd.j0])
     |succ kj57=>
      have H:=HA.out;clear HA;simp only [Zd.j0] at H;by_cases c65:x94_57=true
      ·subst c65
       have H1:(some (([(⟨a0_0,a0_1,a0_2,a0_3⟩:S47)]:List (S47))))=some r:=by rw [if_pos rfl] at H;exact H
       clear H;have H:=H1;clear H1;obtain ⟨y639,hy639⟩:∃ y_:List (S47),y_=(([(⟨a0_0,a0_1,a0_2,a0_3⟩:S47)]:List (S47))):=⟨_,rfl⟩
       replace H:(some y639)=some r:=by subst hy639;first|with_reducible exact H|(have z:=(Option.bind_some _ _).symm.trans H;with_reducible exact z)|exact H
       have Ny639:=Xa.mk hy639;clear hy639;obtain rfl:=Option.some.inj H;obtain ⟨hcz66_0,hcz66_1,hcz66_2,hcz66_3,hcz66_4,hcz66_5⟩:=Ut BK587.out;obtain ⟨hfz66_0,hfz66_1,hfz66_2,hfz66_3,hfz66_4,hfz66_5⟩:=Uu BK587.out;go_wp2_with (first|((with_reducible refine Yc (N:=109) rfl ?_);refine Kd.R_lit k47 _ 47 ?hg (N:=109) ?hd (xs:=([(⟨a0_0,a0_1,a0_2,a0_3⟩:S47)]:List (S47))) (inner:=[.int .i64 a0_0,.int .i64 a0_1,.int .i64 a0_2,.int .i64 a0_3]) (ok:=fun _=>True) (okp:=fun _=>True) ?hr ?hp (fun _ hk=>hk) trivial (Below.refl _ _) (Nat.le_refl _) (by simp) ?_;(case hd=>rfl);(case hg=>rfl);(case hr=>first|(go_simp;done)|(go_simp;rfl));(case hp=>exact (Yn.c4 (show Kd.M k47 _ _ _ (⟨a0_0,a0_1,a0_2,a0_3⟩:S47) [.int .i64 a0_0,.int .i64 a0_1,.int .i64 a0_2,.int .i64 a0_3] from (Us _ _ _ (⟨a0_0,a0_1,a0_2,a0_3⟩:S47) )) (Yn.none _ _)));intro v640 w67 ho68 hb hg_ hnew_;clear hg_ hnew_;(first|rw [← Ny639.out] at ho68|(simp only [Int.reduceToNat] at ho68;rw [← Ny639.out] at ho68));have n0_:=Xa.mk (Kd.Ye ho68 (Xd (bl_ HB)));have n1_:=Xa.mk (Zv (g:=gb587) (o:=.cells #[.int .i64 a0_0,.int .i64 a0_1,.int .i64 a0_2,.int .i64 a0_3,.slice A0_4 l0_4.length c0_4,.slice A0_5 l0_5.length c0_5] 82 (0,0)) (ba_ BK587) hb);have n2_:=Xa.mk (Xc (bl_ HB) hb);clear BK587;clear HB;have HO641:=n0_;have BK587:=n1_;have HB:=n2_;clear n0_ n1_ n2_;clear hb ho68))
       go_ret
       exact ⟨_,rf_,Kd.ra_ (HO641.out),bl_ HB⟩
      ·replace c65:=Bool.eq_false_iff.mpr c65;subst c65
       have H1:(if a0_0=9 then (some (([(⟨10,a0_1,0,0⟩:S47)]:List (S47)))) else (if a0_0=10 then (some (([(⟨11,a0_1,0,0⟩:S47)]:List (S47)))) else (some (([(⟨12,0,0,0⟩:S47)]:List (S47))))))=some r:=by rw [if_neg (show ¬ (false=true) by decide)] at H;exact H
       clear H;have H:=H1;clear H1;by_cases c69:a0_0=9
       ·rw [if_pos c69] at H;have c69b0:(a0_0 == 9)=true:=beq_iff_eq.mpr c69;have c69b1:(a0_0 != 9)=false:=bne_eq_false_iff_eq.mpr c69;clear c69;obtain ⟨y642,hy642⟩:∃ y_:List (S47),y_=(([(⟨10,a0_1,0,0⟩:S47)]:List (S47))):=⟨_,rfl⟩
        replace H:(some y642)=some r:=by subst hy642;first|with_reducible exact H|(have z:=(Option.bind_some _ _).symm.trans H;with_reducible exact z)|exact H
        have Ny642:=Xa.mk hy642;clear hy642;obtain rfl:=Option.some.inj H;obtain ⟨hcz70_0,hcz70_1,hcz70_2,hcz70_3,hcz70_4,hcz70_5⟩:=Ut BK587.out;obtain ⟨hfz70_0,hfz70_1,hfz70_2,hfz70_3,hfz70_4,hfz70_5⟩:=Uu BK587.out;go_wp2_with (first|((with_reducible refine Yc (N:=115) rfl ?_);refine Kd.R_lit k47 _ 47 ?hg (N:=115) ?hd (xs:=([(⟨10,a0_1,0,0⟩:S47)]:List (S47))) (inner:=[.int .i64 10,.int .i64 a0_1,.int .i64 0,.int .i64 0]) (ok:=fun _=>True) (okp:=fun _=>True) ?hr ?hp (fun _ hk=>hk) trivial (Below.refl _ _) (Nat.le_refl _) (by simp) ?_;(case hd=>rfl);(case hg=>rfl);(case hr=>first|(go_simp;done)|(go_simp;rfl));(case hp=>exact (Yn.c4 (show Kd.M k47 _ _ _ (⟨10,a0_1,0,0⟩:S47) [.int .i64 10,.int .i64 a0_1,.int .i64 0,.int .i64 0] from (Us _ _ _ (⟨10,a0_1,0,0⟩:S47) )) (Yn.none _ _)));intro v643 w71 ho72 hb hg_ hnew_;clear hg_ hnew_;(first|rw [← Ny642.out] at ho72|(simp only [Int.reduceToNat] at ho72;rw [← Ny642.out] at ho72));have n0_:=Xa.mk (Kd.Ye ho72 (Xd (bl_ HB)));have n1_:=Xa.mk (Zv (g:=gb587) (o:=.cells #[.int .i64 a0_0,.int .i64 a0_1,.int .i64 a0_2,.int .i64 a0_3,.slice A0_4 l0_4.length c0_4,.slice A0_5 l0_5.length c0_5] 82 (0,0)) (ba_ BK587) hb);have n2_:=Xa.mk (Xc (bl_ HB) hb);clear BK587;clear HB;have HO644:=n0_;have BK587:=n1_;have HB:=n2_;clear n0_ n1_ n2_;clear hb ho72))
        go_ret
        exact ⟨_,rf_,Kd.ra_ (HO644.out),bl_ HB⟩
       ·rw [if_neg c69] at H;have c69b0:(a0_0 == 9)=false:=beq_eq_false_iff_ne.mpr c69;have c69b1:(a0_0 != 9)=true:=bne_iff_ne.mpr c69;by_cases c73:a0_0=10
        ·rw [if_pos c73] at H;have c73b0:(a0_0 == 10)=true:=beq_iff_eq.mpr c73;have c73b1:(a0_0 != 10)=false:=bne_eq_false_iff_eq.mpr c73;clear c73;obtain ⟨y645,hy645⟩:∃ y_:List (S47),y_=(([(⟨11,a0_1,0,0⟩:S47)]:List (S47))):=⟨_,rfl⟩
         replace H:(some y645)=some r:=by subst hy645;first|with_reducible exact H|(have z:=(Option.bind_some _ _).symm.trans H;with_reducible exact z)|exact H
         have Ny645:=Xa.mk hy645;clear hy645;obtain rfl:=Option.some.inj H;obtain ⟨hcz74_0,hcz74_1,hcz74_2,hcz74_3,hcz74_4,hcz74_5⟩:=Ut BK587.out;obtain ⟨hfz74_0,hfz74_1,hfz74_2,hfz74_3,hfz74_4,hfz74_5⟩:=Uu BK587.out;go_wp2_with (first|((with_reducible refine Yc (N:=121) rfl ?_);refine Kd.R_lit k47 _ 47 ?hg (N:=121) ?hd (xs:=([(⟨11,a0_1,0,0⟩:S47)]:List (S47))) (inner:=[.int .i64 11,.int .i64 a0_1,.int .i64 0,.int .i64 0]) (ok:=fun _=>True) (okp:=fun _=>True) ?hr ?hp (fun _ hk=>hk) trivial (Below.refl _ _) (Nat.le_refl _) (by simp) ?_;(case hd=>rfl);(case hg=>rfl);(case hr=>first|(go_simp;done)|(go_simp;rfl));(case hp=>exact (Yn.c4 (show Kd.M k47 _ _ _ (⟨11,a0_1,0,0⟩:S47) [.int .i64 11,.int .i64 a0_1,.int .i64 0,.int .i64 0] from (Us _ _ _ (⟨11,a0_1,0,0⟩:S47) )) (Yn.none _ _)));intro v646 w75 ho76 hb hg_ hnew_;clear hg_ hnew_;(first|rw [← Ny645.out] at ho76|(simp only [Int.reduceToNat] at ho76;rw [← Ny645.out] at ho76));have n0_:=Xa.mk (Kd.Ye ho76 (Xd (bl_ HB)));have n1_:=Xa.mk (Zv (g:=gb587) (o:=.cells #[.int .i64 a0_0,.int .i64 a0_1,.int .i64 a0_2,.int .i64 a0_3,.slice A0_4 l0_4.length c0_4,.slice A0_5 l0_5.length c0_5] 82 (0,0)) (ba_ BK587) hb);have n2_:=Xa.mk (Xc (bl_ HB) hb);clear BK587;clear HB;have HO647:=n0_;have BK587:=n1_;have HB:=n2_;clear n0_ n1_ n2_;clear hb ho76))
         go_ret
         exact ⟨_,rf_,Kd.ra_ (HO647.out),bl_ HB⟩
        ·rw [if_neg c73] at H;have c73b0:(a0_0 == 10)=false:=beq_eq_false_iff_ne.mpr c73;have c73b1:(a0_0 != 10)=true:=bne_iff_ne.mpr c73;obtain ⟨y648,hy648⟩:∃ y_:List (S47),y_=(([(⟨12,0,0,0⟩:S47)]:List (S47))):=⟨_,rfl⟩
         replace H:(some y648)=some r:=by subst hy648;first|with_reducible exact H|(have z:=(Option.bind_some _ _).symm.trans H;with_reducible exact z)|exact H
         have Ny648:=Xa.mk hy648;clear hy648;obtain rfl:=Option.some.inj H;go_wp2_with (first|((with_reducible refine Yc (N:=123) rfl ?_);refine Kd.R_lit k47 _ 47 ?hg (N:=123) ?hd (xs:=([(⟨12,0,0,0⟩:S47)]:List (S47))) (inner:=[.int .i64 12,.int .i64 0,.int .i64 0,.int .i64 0]) (ok:=fun _=>True) (okp:=fun _=>True) ?hr ?hp (fun _ hk=>hk) trivial (Below.refl _ _) (Nat.le_refl _) (by simp) ?_;(case hd=>rfl);(case hg=>rfl);(case hr=>first|(go_simp;done)|(go_simp;rfl));(case hp=>exact (Yn.c4 (show Kd.M k47 _ _ _ (⟨12,0,0,0⟩:S47) [.int .i64 12,.int .i64 0,.int .i64 0,.int .i64 0] from (Us _ _ _ (⟨12,0,0,0⟩:S47) )) (Yn.none _ _)));intro v649 w77 ho78 hb hg_ hnew_;clear hg_ hnew_;(first|rw [← Ny648.out] at ho78|(simp only [Int.reduceToNat] at ho78;rw [← Ny648.out] at ho78));have n0_:=Xa.mk (Kd.Ye ho78 (Xd (bl_ HB)));have n1_:=Xa.mk (Zv (g:=gb587) (o:=.cells #[.int .i64 a0_0,.int .i64 a0_1,.int .i64 a0_2,.int .i64 a0_3,.slice A0_4 l0_4.length c0_4,.slice A0_5 l0_5.length c0_5] 82 (0,0)) (ba_ BK587) hb);have n2_:=Xa.mk (Xc (bl_ HB) hb);clear BK587;clear HB;have HO650:=n0_;have BK587:=n1_;have HB:=n2_;clear n0_ n1_ n2_;clear hb ho78))
         go_ret
         exact ⟨_,rf_,Kd.ra_ (HO650.out),bl_ HB⟩
set_option maxHeartbeats 8000000 in
set_option maxRecDepth 100000 in
theorem Zj.step (k:Nat) (ih_spec_l4One:∀ m_,m_<k→∀ (a0_0:Int) (a0_1:Int) (a0_2:Int) (a0_3:Int) (A0_4:Option Addr) (c0_4:Nat) (l0_4:List (S82)) (A0_5:Option Addr) (c0_5:Nat) (l0_5:List (S82)) (a1:Int) (r:List (S47)) (w:World) (hr0_4:Kd.C k82 w A0_4 l0_4.length l0_4) (hc0_4:l0_4.length≤c0_4) (hr0_5:Kd.C k82 w A0_5 l0_5.length l0_5) (hc0_5:l0_5.length≤c0_5) (h:Zd.f m_ a0_0 a0_1 a0_2 a0_3 l0_4 l0_5 a1=some r),
  Calls Try.prog 96 #[.agg #[.int .i64 a0_0,.int .i64 a0_1,.int .i64 a0_2,.int .i64 a0_3,.slice A0_4 l0_4.length c0_4,.slice A0_5 l0_5.length c0_5],.int .i64 a1] w fun e w'=>∃ v0_:Value,e=.returned (v0_)∧Kd.R k47 47 w' w.heap.size (fun _=>True) v0_ r∧Below w.heap.size w w') (ih:∀ m_,m_<k→∀ (A0:Option Addr) (c0:Nat) (l0:List (S82)) (a1:Int) (r:List (S47)) (w:World) (hr0:Kd.C k82 w A0 l0.length l0) (hc0:l0.length≤c0) (h:Zj.f m_ l0 a1=some r),
  Calls Try.prog 84 #[.slice A0 l0.length c0,.int .i64 a1] w fun e w'=>∃ v0_:Value,e=.returned (v0_)∧Kd.R k47 47 w' w.heap.size (fun _=>True) v0_ r∧Below w.heap.size w w'):∀ (A0:Option Addr) (c0:Nat) (l0:List (S82)) (a1:Int) (r:List (S47)) (w:World) (hr0:Kd.C k82 w A0 l0.length l0) (hc0:l0.length≤c0) (h:Zj.f k l0 a1=some r),
  Calls Try.prog 84 #[.slice A0 l0.length c0,.int .i64 a1] w fun e w'=>∃ v0_:Value,e=.returned (v0_)∧Kd.R k47 47 w' w.heap.size (fun _=>True) v0_ r∧Below w.heap.size w w':=by
 intro A0 c0 l0 a1 r w hr0 hc0 h
 cases k with
 |zero=>exact absurd h (by simp [Zj.f])
 |succ k=>
 simp only [Zj.f] at h;have hu82:=Try.underlying82;have HR0:=Xa.mk hr0;have HC0:=Xa.mk hc0;clear hr0 hc0;have HB:=Xa.mk (Below.refl w.heap.size w);have H:(Zj.l0 k l0 a1 (([]:List (S47))) 0)=some r:=h;clear h;obtain ⟨y651,hy651⟩:∃ y_:List (S47),y_=(([]:List (S47))):=⟨_,rfl⟩
 replace H:(Zj.l0 k l0 a1 y651 0)=some r:=by subst hy651;first|with_reducible exact H|(have z:=(Option.bind_some _ _).symm.trans H;with_reducible exact z)|exact H
 have Ny651:=Xa.mk hy651;clear hy651;have H':=Xa.mk H;clear H
 go_enter Try.func84,Try.ntmps84
 go_wp2_with (first|((with_reducible refine Yc (N:=7) rfl ?_);refine Kd.R_lit k47 _ 47 ?hg (N:=7) ?hd (xs:=([]:List (S47))) (inner:=[]) (ok:=fun _=>True) (okp:=fun _=>True) ?hr ?hp (fun _ hk=>hk) trivial (Below.refl _ _) (Nat.le_refl _) (by simp) ?_;(case hd=>rfl);(case hg=>rfl);(case hr=>first|(go_simp;done)|(go_simp;rfl));(case hp=>exact (Yn.none _ _));intro v652 w3 ho4 hb hg_ hnew_;clear hg_ hnew_;(first|rw [← Ny651.out] at ho4|(simp only [Int.reduceToNat] at ho4;rw [← Ny651.out] at ho4));have n0_:=Xa.mk (Kd.Ye ho4 (Xd (bl_ HB)));have n1_:=Xa.mk (Xc (bl_ HB) hb);clear HB;have HO653:=n0_;have HB:=n1_;clear n0_ n1_;clear hb ho4))
 go_loopg [5,6] k (fun kq v5 v6 w'=>∃ (x5_1:List (S47)) (x6_1:Int),v6=.int .i64 x6_1∧Xa (Zj.l0 kq l0 a1 x5_1 x6_1=some r)∧Xa (kq≤k)∧Xa (Kd.R k47 47 w' w.heap.size (fun _=>True) v5 x5_1)∧Xa (Below w.heap.size w w'))
 case atStart=>exact ⟨(y651),(0),(by first|rfl|(simp;done)|(simp [*];done)),H',⟨Nat.le_refl _⟩,⟨Kd.ra_ (HO653.out)⟩,⟨bl_ HB⟩⟩
 case round=>
  clear H'
  try clear p2
  obtain ⟨x5_1,x6_1,rfl,HA,HK1,HO_5,HB⟩:=hrel
  cases gk with
  |zero=>exact absurd HA.out (by simp [Zj.l0])
  |succ k1=>
   have H:=HA.out;clear HA;simp only [Zj.l0] at H;by_cases c5:x6_1<(l0.length:Int)
   ·rw [if_pos c5] at H;have c5b0:decide (x6_1<(l0.length:Int))=true:=decide_eq_true c5;clear c5;by_cases c6:0≤x6_1
    ·rw [if_pos c6] at H;have c6b0:decide (0≤x6_1)=true:=decide_eq_true c6;clear c6;replace H:=Option.bind_eq_some_iff.mp H;obtain ⟨t655,A70,H⟩:=H;replace H:(if x5_1.length+t655.length<4398046511104 then (Zj.l0 k1 l0 a1 (x5_1 ++ t655) (wrap64 (x6_1+1))) else (none))=some r:=H;have A7:=Xa.mk A70;clear A70;by_cases c8:x5_1.length+t655.length<4398046511104
     ·rw [if_pos c8] at H;have LMc8:=Xa.mk c8;clear c8;obtain ⟨y658,hy658⟩:∃ y_:List (S47),y_=(x5_1 ++ t655):=⟨_,rfl⟩
      replace H:(Zj.l0 k1 l0 a1 y658 (wrap64 (x6_1+1)))=some r:=by subst hy658;first|with_reducible exact H|(have z:=(Option.bind_some _ _).symm.trans H;with_reducible exact z)|exact H
      have Ny658:=Xa.mk hy658;clear hy658;have H':=Xa.mk H;clear H;have p654:0≤(x6_1:Int):=of_decide_eq_true (by first|(with_reducible assumption)|assumption);have q654:x6_1<(l0.length:Int):=of_decide_eq_true (by first|(with_reducible assumption)|assumption);obtain ⟨ad654,A654_4,c654_4,A654_5,c654_5,e654,hx654_0,hx654_1,hx654_2,hx654_3,hx654_4,hx654_5,hl654_4,hi654_4,hl654_5,hi654_5⟩:=at_T82 HR0.out x6_1 p654 q654;cases e654
      replace hx654_0:=(HB.out.cell (World.block_lt_of_cell? w _ hx654_0)).trans hx654_0;replace hx654_1:=(HB.out.cell (World.block_lt_of_cell? w _ hx654_1)).trans hx654_1;replace hx654_2:=(HB.out.cell (World.block_lt_of_cell? w _ hx654_2)).trans hx654_2;replace hx654_3:=(HB.out.cell (World.block_lt_of_cell? w _ hx654_3)).trans hx654_3;replace hx654_4:=(HB.out.cell (World.block_lt_of_cell? w _ hx654_4)).trans hx654_4;replace hx654_5:=(HB.out.cell (World.block_lt_of_cell? w _ hx654_5)).trans hx654_5;have HR654_4:=Xa.mk hi654_4;have HC654_4:=Xa.mk hl654_4;clear hi654_4 hl654_4;have HR654_5:=Xa.mk hi654_5;have HC654_5:=Xa.mk hl654_5;clear hi654_5 hl654_5;replace p654:=eq_true p654;replace q654:=eq_true q654;obtain ⟨Ao9,co9,eo9⟩:=Kd.Yo HO_5.out;subst eo9;go_wp2_with (first|((with_reducible refine Xo (f:=96) rfl ?_);refine Yz (some 23) rfl rfl Try.func96 (by kernel_rfl) rfl #[.agg #[.int .i64 ((Yx l0 x6_1).f0),.int .i64 ((Yx l0 x6_1).f1),.int .i64 ((Yx l0 x6_1).f2),.int .i64 ((Yx l0 x6_1).f3),.slice A654_4 ((Yx l0 x6_1).f4).length c654_4,.slice A654_5 ((Yx l0 x6_1).f5).length c654_5],.int .i64 (wrap64 (a1+(x5_1.length:Int)))] rfl ga_ ?_;(with_reducible refine (ih_spec_l4One k1 (by have:=HK1.out;omega) ((Yx l0 x6_1).f0) ((Yx l0 x6_1).f1) ((Yx l0 x6_1).f2) ((Yx l0 x6_1).f3) _ _ ((Yx l0 x6_1).f4) _ _ ((Yx l0 x6_1).f5) (wrap64 (a1+(x5_1.length:Int))) t655 _ ?side1 ?side2 ?side3 ?side4 A7.out).mono ?_);(case side1=>repeat (first|exact (Kd.Zt HR654_4.out HB.out)|(with_reducible refine Kd.Xm ?_ _)|(with_reducible refine Kd.Xn ?_ _)|(with_reducible refine Kd.Xv ?_)));(case side2=>exact HC654_4.out);(case side3=>repeat (first|exact (Kd.Zt HR654_5.out HB.out)|(with_reducible refine Kd.Xm ?_ _)|(with_reducible refine Kd.Xn ?_ _)|(with_reducible refine Kd.Xv ?_)));(case side4=>exact HC654_5.out);rintro e w10 ⟨v656,rfl,ho0,hb⟩;refine ⟨_,rfl,?_⟩;have n0_:=Xa.mk (Kd.R_elder' (Kd.ra_ (HO_5.out)) (Kd.Yr ho0) hb);have n1_:=Xa.mk (Kd.Ye (Kd.R_new' ho0 (Kd.Zx (Kd.ra_ (HO_5.out)))) (Xd (bl_ HB)));have n2_:=Xa.mk (Xc (bl_ HB) hb);clear HO_5;clear HB;have HO_5:=n0_;have HO657:=n1_;have HB:=n2_;clear n0_ n1_ n2_;(try clear hb);(try clear hb2);(try clear hk);(try clear hi);(try clear ho0);obtain ⟨Ao12,co12,eo12⟩:=Kd.Yo HO657.out;subst eo12)|((with_reducible refine Zk (b:=.append) (xs:=#[.tmp 14,.tmp 23]) rfl ?_);at_builtin;refine Kd.Vk k47 (w0:=w) w.heap.size rfl (.tmp 14) (.tmp 23) 36 47 (.agg #[(.int .i64 0),(.int .i64 0),(.int .i64 0),(.int .i64 0)]) 32 rfl Try.underlying36 Ve rfl (by decide) (by omega) (.slice Ao9 x5_1.length co9) x5_1 t655 _ _ _ (fun k_=>some k_≠(.slice Ao12 t655.length co12:Value).ownBlock) (fun _=>False) rfl rfl ?aO ?aR (fun _ _ h=>h) (fun _ h=>h.elim) ?aF ?aB ?aS ?aL ?_;(case aR=>repeat (first|exact (Kd.R_reads' HO657.out).2.2|(with_reducible refine Kd.Xm ?_ _)|(with_reducible refine Kd.Xn ?_ _)|(with_reducible refine Kd.Xv ?_)));(case aB=>exact (bl_ HB));(case aF=>exact (fun k_ hk=>Kd.fresh' (Kd.Zx (Kd.ra_ (HO657.out))) k_ hk));(case aO=>exact (Kd.ra_ (Kd.Xq HO_5.out (fun _ hk=>hk.2))));(case aS=>exact (Xd (bl_ HB)));(case aL=>have:=LMc8.out;omega);intro v659 w11 ho hb hg hat;rw [← Ny658.out] at ho;have n0_:=Xa.mk (Kd.Yy (ok:=(fun _=>True)) (Kd.ra_ (HO657.out)) hg hat);have n1_:=Xa.mk (hb);have n2_:=Xa.mk (ho);clear HO657;clear HB;clear HO_5;have HO657:=n0_;have HB:=n1_;have HO660:=n2_;clear n0_ n1_ n2_;clear ho hb hg hat))
      go_roundg k1
      case measure=>have:=HK1.out;omega
      case rel=>exact ⟨(y658),(wrap64 (x6_1+1)),(by first|rfl|(simp;done)|(simp [*];done)),H',⟨by have:=HK1.out;omega⟩,⟨Kd.ra_ (Kd.Xq HO660.out (fun _ hk=>trivial))⟩,⟨bl_ HB⟩⟩
     ·rw [if_neg c8] at H;exact absurd H (by simp)
    ·rw [if_neg c6] at H;exact absurd H (by simp)
   ·rw [if_neg c5] at H;have c5b0:decide (x6_1<(l0.length:Int))=false:=decide_eq_false c5;clear c5;obtain rfl:=Option.some.inj H;go_wp2
    go_ret
    exact ⟨_,rf_,Kd.ra_ (HO_5.out),bl_ HB⟩
theorem spec_l4One_spec_l4Of.all (k:Nat):(∀ (a0_0:Int) (a0_1:Int) (a0_2:Int) (a0_3:Int) (A0_4:Option Addr) (c0_4:Nat) (l0_4:List (S82)) (A0_5:Option Addr) (c0_5:Nat) (l0_5:List (S82)) (a1:Int) (r:List (S47)) (w:World) (hr0_4:Kd.C k82 w A0_4 l0_4.length l0_4) (hc0_4:l0_4.length≤c0_4) (hr0_5:Kd.C k82 w A0_5 l0_5.length l0_5) (hc0_5:l0_5.length≤c0_5) (h:Zd.f k a0_0 a0_1 a0_2 a0_3 l0_4 l0_5 a1=some r),
  Calls Try.prog 96 #[.agg #[.int .i64 a0_0,.int .i64 a0_1,.int .i64 a0_2,.int .i64 a0_3,.slice A0_4 l0_4.length c0_4,.slice A0_5 l0_5.length c0_5],.int .i64 a1] w fun e w'=>∃ v0_:Value,e=.returned (v0_)∧Kd.R k47 47 w' w.heap.size (fun _=>True) v0_ r∧Below w.heap.size w w')∧(∀ (A0:Option Addr) (c0:Nat) (l0:List (S82)) (a1:Int) (r:List (S47)) (w:World) (hr0:Kd.C k82 w A0 l0.length l0) (hc0:l0.length≤c0) (h:Zj.f k l0 a1=some r),
  Calls Try.prog 84 #[.slice A0 l0.length c0,.int .i64 a1] w fun e w'=>∃ v0_:Value,e=.returned (v0_)∧Kd.R k47 47 w' w.heap.size (fun _=>True) v0_ r∧Below w.heap.size w w'):=by
 induction k using Nat.strongRecOn with
 |_ k ih=>exact ⟨Zd.step k (fun m hm=>(ih m hm).1) (fun m hm=>(ih m hm).2),Zj.step k (fun m hm=>(ih m hm).1) (fun m hm=>(ih m hm).2)⟩
theorem Zj.calls (k:Nat):∀ (A0:Option Addr) (c0:Nat) (l0:List (S82)) (a1:Int) (r:List (S47)) (w:World) (hr0:Kd.C k82 w A0 l0.length l0) (hc0:l0.length≤c0) (h:Zj.f k l0 a1=some r),
  Calls Try.prog 84 #[.slice A0 l0.length c0,.int .i64 a1] w fun e w'=>∃ v0_:Value,e=.returned (v0_)∧Kd.R k47 47 w' w.heap.size (fun _=>True) v0_ r∧Below w.heap.size w w':=(spec_l4One_spec_l4Of.all k).2
end Go.Proofs.Ytjmlpgpkmhjdiaa.GSlim
