import Derived.Test.YtdkcjecllbdljaaDoorCFnCodeLines22
import Derived.Test.YtdkcjecllbdljaaDoorCFnCodeLines23
namespace Go.Proofs.YtdkcjecllbdljaaDoor.GCode
open Go.RowKit Go.Proofs.YtdkcjecllbdljaaDoorW.PrintWords Go.Proofs.YtdkcjecllbdljaaDoorW.PrintLast Go.Proofs.YtdkcjecllbdljaaDoorW.PrintMore
attribute [local go_sem] Zy Ua Uo Uq Zp Zq Zz Ub
set_option linter.unusedVariables false
set_option linter.unusedSimpArgs false
mutual
def Xr.j0:Nat→Int→Bool→Int→Int→Int→Int→List (S62)→List (S62)→Option (Bool)
 |0,_,_,_,_,_,_,_,_=>none
 |k+1,x1,x5,x102000,x102001,x102002,x102003,x102004,x102005=>if x102002 ≥ 0 then (Xr.j1 k x1 x5 (decide (x102002<3)) x102000 x102001 x102002 x102003 x102004 x102005) else (Xr.j1 k x1 x5 false x102000 x102001 x102002 x102003 x102004 x102005)
def Xr.j1:Nat→Int→Bool→Bool→Int→Int→Int→Int→List (S62)→List (S62)→Option (Bool)
 |0,_,_,_,_,_,_,_,_,_=>none
 |k+1,x1,x5,x6,x102000,x102001,x102002,x102003,x102004,x102005=>if x102000=1 then (if x5=true then (if x102002=0 then ((Ud.f x102003).bind fun t102=>(some t102)) else (some false)) else (some false)) else (if x102000=2 then (if x5=true then (if x6=true then (if x102003 ≥ 1 then (some (decide (x102003≤5))) else (some false)) else (some false)) else (some false)) else (if x102000=3 then (if x5=true then (if x102002 ≥ 0 then (if x102002<3 then (some (x102003 == 0)) else (some false)) else (some false)) else (some false)) else (if x102000=4 then (if x102001 ≥ 0 then (if x102001<3 then (if x6=true then (some (x102003 == 0)) else (some false)) else (some false)) else (some false)) else (if x102000=5 then (if x5=true then (if x102002=0 then (some (x102003 == 0)) else (some false)) else (some false)) else (if x102000=9 then (if x1 ≥ 0 then (if x102001 ≥ 0 then (if x102001<2 then (if x102002=0 then (some (x102003 == 0)) else (some false)) else (some false)) else (some false)) else (some false)) else (if x102000=10 then (if x102001 ≥ 0 then (if x102001<2 then (if x102002=0 then (some (x102003 == 0)) else (some false)) else (some false)) else (some false)) else (if x102000=11 then (if x102001=0 then (if x102002=0 then (some (x102003 == 0)) else (some false)) else (some false)) else (some false))))))))
end
def Xr.f (k:Nat) (a0_0:Int) (a0_1:Int) (a0_2:Int) (a0_3:Int) (l0_4:List (S62)) (l0_5:List (S62)) (a1:Int):Option (Bool):=if a0_1 ≥ 0 then (Xr.j0 k a1 (decide (a0_1<3)) a0_0 a0_1 a0_2 a0_3 l0_4 l0_5) else (Xr.j0 k a1 false a0_0 a0_1 a0_2 a0_3 l0_4 l0_5)
set_option maxHeartbeats 8000000 in
set_option maxRecDepth 100000 in
theorem Xr.calls (k:Nat) (a0_0:Int) (a0_1:Int) (a0_2:Int) (a0_3:Int) (A0_4:Option Addr) (c0_4:Nat) (l0_4:List (S62)) (A0_5:Option Addr) (c0_5:Nat) (l0_5:List (S62)) (a1:Int) (r:Bool) (w:World) (hr0_4:Kd.C k62 w A0_4 l0_4.length l0_4) (hc0_4:l0_4.length≤c0_4) (hr0_5:Kd.C k62 w A0_5 l0_5.length l0_5) (hc0_5:l0_5.length≤c0_5) (h:Xr.f k a0_0 a0_1 a0_2 a0_3 l0_4 l0_5 a1=some r) :
  Calls Tryd.prog 31 #[.agg #[.int .i64 a0_0,.int .i64 a0_1,.int .i64 a0_2,.int .i64 a0_3,.slice A0_4 l0_4.length c0_4,.slice A0_5 l0_5.length c0_5],.int .i64 a1] w fun e w'=>e=.returned (.bool r)∧Below w.heap.size w w':=by
 have hu62:=Tryd.underlying62;have HR0_4:=Xa.mk hr0_4;have HC0_4:=Xa.mk hc0_4;clear hr0_4 hc0_4;have HR0_5:=Xa.mk hr0_5;have HC0_5:=Xa.mk hc0_5;clear hr0_5 hc0_5;have HB:=Xa.mk (Below.refl w.heap.size w);have H:(if a0_1 ≥ 0 then (Xr.j0 k a1 (decide (a0_1<3)) a0_0 a0_1 a0_2 a0_3 l0_4 l0_5) else (Xr.j0 k a1 false a0_0 a0_1 a0_2 a0_3 l0_4 l0_5))=some r:=h;clear h;have HC3:=Xa.mk H;clear H
 go_enter Tryd.func31,Tryd.ntmps31
 go_upto_region 1 with (first|((with_reducible refine Xq (N:=2) rfl ?_);refine Yq ?hg (N:=2) ?hd (cs:=#[.int .i64 a0_0,.int .i64 a0_1,.int .i64 a0_2,.int .i64 a0_3,.slice A0_4 l0_4.length c0_4,.slice A0_5 l0_5.length c0_5]) (t:=62) ?hr ?_;(case hd=>rfl);(case hg=>rfl);(case hr=>first|(go_simp;done)|(go_simp;rfl));intro gb101 hg w4 hbox hb;have n0_:=Xa.mk (Xc (bl_ HB) hb);have n1_:=Xa.mk (hbox);have n2_:=Xa.mk ((by rw [hg];exact (Xd (bl_ HB)):w.heap.size≤gb101));have n3_:=Xa.mk ((by rw [hg];exact (Xd (bl_ HB)):w.heap.size≤gb101));clear HB;have HB:=n0_;have BK101:=n1_;have GW101:=n2_;have GE101:=n3_;clear n0_ n1_ n2_ n3_;clear hb hbox hg))
 (try simp only [Act.put,List.setIfInBounds_toArray,List.set_cons_zero,List.set_cons_succ])
 go_cut [5] (fun v5 wc=>∃ (kq:Nat) (x5_2:Bool),v5=.bool x5_2∧Xa (Xr.j0 kq a1 x5_2 a0_0 a0_1 a0_2 a0_3 l0_4 l0_5=some r)∧Xa (kq≤k)∧Xa (wc.heap[gb101]?=some (.cells #[.int .i64 a0_0,.int .i64 a0_1,.int .i64 a0_2,.int .i64 a0_3,(.slice A0_4 l0_4.length c0_4),(.slice A0_5 l0_5.length c0_5)] 62 (0,0)))∧Xa (Below w.heap.size w wc))
 case first=>
  have H:=HC3.out;clear HC3;by_cases c5:a0_1 ≥ 0
  ·rw [if_pos c5] at H;have c5b0:decide (0≤a0_1)=true:=decide_eq_true c5;clear c5
   (first|rw [c5b0]|(simp only [Xt,Xu];rw [c5b0])|skip)
   have H':=Xa.mk H;clear H;obtain ⟨hcz6_0,hcz6_1,hcz6_2,hcz6_3,hcz6_4,hcz6_5⟩:=Uk BK101.out;obtain ⟨hfz6_0,hfz6_1,hfz6_2,hfz6_3,hfz6_4,hfz6_5⟩:=Ul BK101.out;go_wp2
   go_meet
   case rel=>exact ⟨_,(decide (a0_1<3)),(by first|rfl|(simp;done)|(simp [*];done)),H',⟨by first|omega|exact Nat.le_refl _⟩,⟨ba_ BK101⟩,⟨bl_ HB⟩⟩
  ·rw [if_neg c5] at H;have c5b0:decide (0≤a0_1)=false:=decide_eq_false c5;clear c5
   (first|rw [c5b0]|(simp only [Xt,Xu];rw [c5b0])|skip)
   have H':=Xa.mk H;clear H;obtain ⟨hcz7_0,hcz7_1,hcz7_2,hcz7_3,hcz7_4,hcz7_5⟩:=Uk BK101.out;obtain ⟨hfz7_0,hfz7_1,hfz7_2,hfz7_3,hfz7_4,hfz7_5⟩:=Ul BK101.out;go_wp2
   go_meet
   case rel=>exact ⟨_,(false),(by first|rfl|(simp;done)|(simp [*];done)),H',⟨by first|omega|exact Nat.le_refl _⟩,⟨ba_ BK101⟩,⟨bl_ HB⟩⟩
 case rest=>
  clear HC3
  try clear p2
  try clear c3
  try clear c5
  try clear c5b0
  try clear hcz6_0
  try clear hcz6_1
  try clear hcz6_2
  try clear hcz6_3
  try clear hcz6_4
  try clear hcz6_5
  try clear hcz7_0
  try clear hcz7_1
  try clear hcz7_2
  try clear hcz7_3
  try clear hcz7_4
  try clear hcz7_5
  try clear hfz6_0
  try clear hfz6_1
  try clear hfz6_2
  try clear hfz6_3
  try clear hfz6_4
  try clear hfz6_5
  try clear hfz7_0
  try clear hfz7_1
  try clear hfz7_2
  try clear hfz7_3
  try clear hfz7_4
  try clear hfz7_5
  obtain ⟨kq,x5_2,rfl,HA,HJ2,BK101,HB⟩:=hcut
  cases kq with
  |zero=>exact absurd HA.out (by simp [Xr.j0])
  |succ kj2=>
   have H:=HA.out;clear HA;simp only [Xr.j0] at H;have HC8:=Xa.mk H;clear H
   go_upto_region 2 with (fail)
   go_cut [6] (fun v6 wc=>∃ (kq:Nat) (x6_7:Bool),v6=.bool x6_7∧Xa (Xr.j1 kq a1 x5_2 x6_7 a0_0 a0_1 a0_2 a0_3 l0_4 l0_5=some r)∧Xa (kq≤kj2)∧Xa (wc.heap[gb101]?=some (.cells #[.int .i64 a0_0,.int .i64 a0_1,.int .i64 a0_2,.int .i64 a0_3,(.slice A0_4 l0_4.length c0_4),(.slice A0_5 l0_5.length c0_5)] 62 (0,0)))∧Xa (Below w.heap.size w wc))
   case first=>
    have H:=HC8.out;clear HC8;by_cases c9:a0_2 ≥ 0
    ·rw [if_pos c9] at H;have c9b0:decide (0≤a0_2)=true:=decide_eq_true c9;clear c9
     (first|rw [c9b0]|(simp only [Xt,Xu];rw [c9b0])|skip)
     have H':=Xa.mk H;clear H;obtain ⟨hcz10_0,hcz10_1,hcz10_2,hcz10_3,hcz10_4,hcz10_5⟩:=Uk BK101.out;obtain ⟨hfz10_0,hfz10_1,hfz10_2,hfz10_3,hfz10_4,hfz10_5⟩:=Ul BK101.out;go_wp2
     go_meet
     case rel=>exact ⟨_,(decide (a0_2<3)),(by first|rfl|(simp;done)|(simp [*];done)),H',⟨by have:=HJ2.out;first|omega|exact Nat.le_refl _⟩,⟨ba_ BK101⟩,⟨bl_ HB⟩⟩
    ·rw [if_neg c9] at H;have c9b0:decide (0≤a0_2)=false:=decide_eq_false c9;clear c9
     (first|rw [c9b0]|(simp only [Xt,Xu];rw [c9b0])|skip)
     have H':=Xa.mk H;clear H;obtain ⟨hcz11_0,hcz11_1,hcz11_2,hcz11_3,hcz11_4,hcz11_5⟩:=Uk BK101.out;obtain ⟨hfz11_0,hfz11_1,hfz11_2,hfz11_3,hfz11_4,hfz11_5⟩:=Ul BK101.out;go_wp2
     go_meet
     case rel=>exact ⟨_,(false),(by first|rfl|(simp;done)|(simp [*];done)),H',⟨by have:=HJ2.out;first|omega|exact Nat.le_refl _⟩,⟨ba_ BK101⟩,⟨bl_ HB⟩⟩
   case rest=>
    clear HC8
    try clear p2
    try clear c3
    try clear c5
    try clear c5b0
    try clear c9
    try clear c9b0
    try clear hcz10_0
    try clear hcz10_1
    try clear hcz10_2
    try clear hcz10_3
    try clear hcz10_4
    try clear hcz10_5
    try clear hcz11_0
    try clear hcz11_1
    try clear hcz11_2
    try clear hcz11_3
    try clear hcz11_4
    try clear hcz11_5
    try clear hcz6_0
    try clear hcz6_1
    try clear hcz6_2
    try clear hcz6_3
    try clear hcz6_4
    try clear hcz6_5
    try clear hcz7_0
    try clear hcz7_1
    try clear hcz7_2
    try clear hcz7_3
    try clear hcz7_4
    try clear hcz7_5
    try clear hfz10_0
    try clear hfz10_1
    try clear hfz10_2
    try clear hfz10_3
    try clear hfz10_4
    try clear hfz10_5
    try clear hfz11_0
    try clear hfz11_1
    try clear hfz11_2
    try clear hfz11_3
    try clear hfz11_4
    try clear hfz11_5
    try clear hfz6_0
    try clear hfz6_1
    try clear hfz6_2
    try clear hfz6_3
    try clear hfz6_4
    try clear hfz6_5
    try clear hfz7_0
    try clear hfz7_1
    try clear hfz7_2
    try clear hfz7_3
    try clear hfz7_4
    try clear hfz7_5
    try clear p2
    obtain ⟨kq,x6_7,rfl,HA,HJ7,BK101,HB⟩:=hcut
    cases kq with
    |zero=>exact absurd HA.out (by simp [Xr.j1])
    |succ kj7=>
     have H:=HA.out;clear HA;simp only [Xr.j1] at H;by_cases c12:a0_0=1
     ·rw [if_pos c12] at H;have c12b0:(a0_0 == 1)=true:=beq_iff_eq.mpr c12;have c12b1:(a0_0 != 1)=false:=bne_eq_false_iff_eq.mpr c12;clear c12;by_cases c13:x5_2=true
      ·subst c13
       have H1:(if a0_2=0 then ((Ud.f a0_3).bind fun t102=>(some t102)) else (some false))=some r:=by rw [if_pos rfl] at H;exact H
       clear H;have H:=H1;clear H1;by_cases c14:a0_2=0
       ·rw [if_pos c14] at H;have c14b0:(a0_2 == 0)=true:=beq_iff_eq.mpr c14;have c14b1:(a0_2 != 0)=false:=bne_eq_false_iff_eq.mpr c14;clear c14;replace H:=Option.bind_eq_some_iff.mp H;obtain ⟨t102,A150,H⟩:=H;replace H:(some t102)=some r:=H;have A15:=Xa.mk A150;clear A150;obtain rfl:=Option.some.inj H;obtain ⟨hcz16_0,hcz16_1,hcz16_2,hcz16_3,hcz16_4,hcz16_5⟩:=Uk BK101.out;obtain ⟨hfz16_0,hfz16_1,hfz16_2,hfz16_3,hfz16_4,hfz16_5⟩:=Ul BK101.out;go_wp2_with (first|(go_at_call 49;(with_reducible refine (Ud.calls a0_3 t102 _ A15.out).mono ?_);rintro e w' ⟨rfl,⟨nd,rfl⟩⟩))
        go_ret
        exact ⟨rf_,bl_ HB⟩
       ·rw [if_neg c14] at H;have c14b0:(a0_2 == 0)=false:=beq_eq_false_iff_ne.mpr c14;have c14b1:(a0_2 != 0)=true:=bne_iff_ne.mpr c14;obtain rfl:=Option.some.inj H;obtain ⟨hcz17_0,hcz17_1,hcz17_2,hcz17_3,hcz17_4,hcz17_5⟩:=Uk BK101.out;obtain ⟨hfz17_0,hfz17_1,hfz17_2,hfz17_3,hfz17_4,hfz17_5⟩:=Ul BK101.out;go_wp2
        go_ret
        exact ⟨rf_,bl_ HB⟩
      ·replace c13:=Bool.eq_false_iff.mpr c13;subst c13
       have H1:(some false)=some r:=by rw [if_neg (show ¬ (false=true) by decide)] at H;exact H
       clear H;have H:=H1;clear H1;obtain rfl:=Option.some.inj H;obtain ⟨hcz18_0,hcz18_1,hcz18_2,hcz18_3,hcz18_4,hcz18_5⟩:=Uk BK101.out;obtain ⟨hfz18_0,hfz18_1,hfz18_2,hfz18_3,hfz18_4,hfz18_5⟩:=Ul BK101.out;go_wp2
       go_ret
       exact ⟨rf_,bl_ HB⟩
     ·rw [if_neg c12] at H;have c12b0:(a0_0 == 1)=false:=beq_eq_false_iff_ne.mpr c12;have c12b1:(a0_0 != 1)=true:=bne_iff_ne.mpr c12;by_cases c19:a0_0=2
      ·rw [if_pos c19] at H;have c19b0:(a0_0 == 2)=true:=beq_iff_eq.mpr c19;have c19b1:(a0_0 != 2)=false:=bne_eq_false_iff_eq.mpr c19;clear c19;by_cases c20:x5_2=true
       ·subst c20
        have H1:(if x6_7=true then (if a0_3 ≥ 1 then (some (decide (a0_3≤5))) else (some false)) else (some false))=some r:=by rw [if_pos rfl] at H;exact H
        clear H;have H:=H1;clear H1;by_cases c21:x6_7=true
        ·subst c21
         have H1:(if a0_3 ≥ 1 then (some (decide (a0_3≤5))) else (some false))=some r:=by rw [if_pos rfl] at H;exact H
         clear H;have H:=H1;clear H1;by_cases c22:a0_3 ≥ 1
         ·rw [if_pos c22] at H;have c22b0:decide (1≤a0_3)=true:=decide_eq_true c22;clear c22;obtain rfl:=Option.some.inj H;obtain ⟨hcz23_0,hcz23_1,hcz23_2,hcz23_3,hcz23_4,hcz23_5⟩:=Uk BK101.out;obtain ⟨hfz23_0,hfz23_1,hfz23_2,hfz23_3,hfz23_4,hfz23_5⟩:=Ul BK101.out;go_wp2
          go_ret
          exact ⟨rf_,bl_ HB⟩
         ·rw [if_neg c22] at H;have c22b0:decide (1≤a0_3)=false:=decide_eq_false c22;clear c22;obtain rfl:=Option.some.inj H;obtain ⟨hcz24_0,hcz24_1,hcz24_2,hcz24_3,hcz24_4,hcz24_5⟩:=Uk BK101.out;obtain ⟨hfz24_0,hfz24_1,hfz24_2,hfz24_3,hfz24_4,hfz24_5⟩:=Ul BK101.out;go_wp2
          go_ret
          exact ⟨rf_,bl_ HB⟩
        ·replace c21:=Bool.eq_false_iff.mpr c21;subst c21
         have H1:(some false)=some r:=by rw [if_neg (show ¬ (false=true) by decide)] at H;exact H
         clear H;have H:=H1;clear H1;obtain rfl:=Option.some.inj H;obtain ⟨hcz25_0,hcz25_1,hcz25_2,hcz25_3,hcz25_4,hcz25_5⟩:=Uk BK101.out;obtain ⟨hfz25_0,hfz25_1,hfz25_2,hfz25_3,hfz25_4,hfz25_5⟩:=Ul BK101.out;go_wp2
         go_ret
         exact ⟨rf_,bl_ HB⟩
       ·replace c20:=Bool.eq_false_iff.mpr c20;subst c20
        have H1:(some false)=some r:=by rw [if_neg (show ¬ (false=true) by decide)] at H;exact H
        clear H;have H:=H1;clear H1;obtain rfl:=Option.some.inj H;obtain ⟨hcz26_0,hcz26_1,hcz26_2,hcz26_3,hcz26_4,hcz26_5⟩:=Uk BK101.out;obtain ⟨hfz26_0,hfz26_1,hfz26_2,hfz26_3,hfz26_4,hfz26_5⟩:=Ul BK101.out;go_wp2
        go_ret
        exact ⟨rf_,bl_ HB⟩
      ·rw [if_neg c19] at H;have c19b0:(a0_0 == 2)=false:=beq_eq_false_iff_ne.mpr c19;have c19b1:(a0_0 != 2)=true:=bne_iff_ne.mpr c19;by_cases c27:a0_0=3
       ·rw [if_pos c27] at H;have c27b0:(a0_0 == 3)=true:=beq_iff_eq.mpr c27;have c27b1:(a0_0 != 3)=false:=bne_eq_false_iff_eq.mpr c27;clear c27;by_cases c28:x5_2=true
        ·subst c28
         have H1:(if a0_2 ≥ 0 then (if a0_2<3 then (some (a0_3 == 0)) else (some false)) else (some false))=some r:=by rw [if_pos rfl] at H;exact H
         clear H;have H:=H1;clear H1;by_cases c29:a0_2 ≥ 0
         ·rw [if_pos c29] at H;have c29b0:decide (0≤a0_2)=true:=decide_eq_true c29;clear c29;by_cases c30:a0_2<3
          ·rw [if_pos c30] at H;have c30b0:decide (a0_2<3)=true:=decide_eq_true c30;clear c30;obtain rfl:=Option.some.inj H;obtain ⟨hcz31_0,hcz31_1,hcz31_2,hcz31_3,hcz31_4,hcz31_5⟩:=Uk BK101.out;obtain ⟨hfz31_0,hfz31_1,hfz31_2,hfz31_3,hfz31_4,hfz31_5⟩:=Ul BK101.out;go_wp2
           go_ret
           exact ⟨rf_,bl_ HB⟩
          ·rw [if_neg c30] at H;have c30b0:decide (a0_2<3)=false:=decide_eq_false c30;clear c30;obtain rfl:=Option.some.inj H;obtain ⟨hcz32_0,hcz32_1,hcz32_2,hcz32_3,hcz32_4,hcz32_5⟩:=Uk BK101.out;obtain ⟨hfz32_0,hfz32_1,hfz32_2,hfz32_3,hfz32_4,hfz32_5⟩:=Ul BK101.out;go_wp2
           go_ret
           exact ⟨rf_,bl_ HB⟩
         ·rw [if_neg c29] at H;have c29b0:decide (0≤a0_2)=false:=decide_eq_false c29;clear c29;obtain rfl:=Option.some.inj H;obtain ⟨hcz33_0,hcz33_1,hcz33_2,hcz33_3,hcz33_4,hcz33_5⟩:=Uk BK101.out;obtain ⟨hfz33_0,hfz33_1,hfz33_2,hfz33_3,hfz33_4,hfz33_5⟩:=Ul BK101.out;go_wp2
          go_ret
          exact ⟨rf_,bl_ HB⟩
        ·replace c28:=Bool.eq_false_iff.mpr c28;subst c28
         have H1:(some false)=some r:=by rw [if_neg (show ¬ (false=true) by decide)] at H;exact H
         clear H;have H:=H1;clear H1;obtain rfl:=Option.some.inj H;obtain ⟨hcz34_0,hcz34_1,hcz34_2,hcz34_3,hcz34_4,hcz34_5⟩:=Uk BK101.out;obtain ⟨hfz34_0,hfz34_1,hfz34_2,hfz34_3,hfz34_4,hfz34_5⟩:=Ul BK101.out;go_wp2
         go_ret
         exact ⟨rf_,bl_ HB⟩
       ·rw [if_neg c27] at H;have c27b0:(a0_0 == 3)=false:=beq_eq_false_iff_ne.mpr c27;have c27b1:(a0_0 != 3)=true:=bne_iff_ne.mpr c27;by_cases c35:a0_0=4
        ·rw [if_pos c35] at H;have c35b0:(a0_0 == 4)=true:=beq_iff_eq.mpr c35;have c35b1:(a0_0 != 4)=false:=bne_eq_false_iff_eq.mpr c35;clear c35;by_cases c36:a0_1 ≥ 0
         ·rw [if_pos c36] at H;have c36b0:decide (0≤a0_1)=true:=decide_eq_true c36;clear c36;by_cases c37:a0_1<3
          ·rw [if_pos c37] at H;have c37b0:decide (a0_1<3)=true:=decide_eq_true c37;clear c37;by_cases c38:x6_7=true
           ·subst c38
            have H1:(some (a0_3 == 0))=some r:=by rw [if_pos rfl] at H;exact H
            clear H;have H:=H1;clear H1;obtain rfl:=Option.some.inj H;obtain ⟨hcz39_0,hcz39_1,hcz39_2,hcz39_3,hcz39_4,hcz39_5⟩:=Uk BK101.out;obtain ⟨hfz39_0,hfz39_1,hfz39_2,hfz39_3,hfz39_4,hfz39_5⟩:=Ul BK101.out;go_wp2
            go_ret
            exact ⟨rf_,bl_ HB⟩
           ·replace c38:=Bool.eq_false_iff.mpr c38;subst c38
            have H1:(some false)=some r:=by rw [if_neg (show ¬ (false=true) by decide)] at H;exact H
            clear H;have H:=H1;clear H1;obtain rfl:=Option.some.inj H;obtain ⟨hcz40_0,hcz40_1,hcz40_2,hcz40_3,hcz40_4,hcz40_5⟩:=Uk BK101.out;obtain ⟨hfz40_0,hfz40_1,hfz40_2,hfz40_3,hfz40_4,hfz40_5⟩:=Ul BK101.out;go_wp2
            go_ret
            exact ⟨rf_,bl_ HB⟩
          ·rw [if_neg c37] at H;have c37b0:decide (a0_1<3)=false:=decide_eq_false c37;clear c37;obtain rfl:=Option.some.inj H;obtain ⟨hcz41_0,hcz41_1,hcz41_2,hcz41_3,hcz41_4,hcz41_5⟩:=Uk BK101.out;obtain ⟨hfz41_0,hfz41_1,hfz41_2,hfz41_3,hfz41_4,hfz41_5⟩:=Ul BK101.out;go_wp2
           go_ret
           exact ⟨rf_,bl_ HB⟩
         ·rw [if_neg c36] at H;have c36b0:decide (0≤a0_1)=false:=decide_eq_false c36;clear c36;obtain rfl:=Option.some.inj H;obtain ⟨hcz42_0,hcz42_1,hcz42_2,hcz42_3,hcz42_4,hcz42_5⟩:=Uk BK101.out;obtain ⟨hfz42_0,hfz42_1,hfz42_2,hfz42_3,hfz42_4,hfz42_5⟩:=Ul BK101.out;go_wp2
          go_ret
          exact ⟨rf_,bl_ HB⟩
        ·rw [if_neg c35] at H;have c35b0:(a0_0 == 4)=false:=beq_eq_false_iff_ne.mpr c35;have c35b1:(a0_0 != 4)=true:=bne_iff_ne.mpr c35;by_cases c43:a0_0=5
         ·rw [if_pos c43] at H;have c43b0:(a0_0 == 5)=true:=beq_iff_eq.mpr c43;have c43b1:(a0_0 != 5)=false:=bne_eq_false_iff_eq.mpr c43;clear c43;by_cases c44:x5_2=true
          ·subst c44
           have H1:(if a0_2=0 then (some (a0_3 == 0)) else (some false))=some r:=by rw [if_pos rfl] at H;exact H
           clear H;have H:=H1;clear H1;by_cases c45:a0_2=0
           ·rw [if_pos c45] at H;have c45b0:(a0_2 == 0)=true:=beq_iff_eq.mpr c45;have c45b1:(a0_2 != 0)=false:=bne_eq_false_iff_eq.mpr c45;clear c45;obtain rfl:=Option.some.inj H;obtain ⟨hcz46_0,hcz46_1,hcz46_2,hcz46_3,hcz46_4,hcz46_5⟩:=Uk BK101.out;obtain ⟨hfz46_0,hfz46_1,hfz46_2,hfz46_3,hfz46_4,hfz46_5⟩:=Ul BK101.out;go_wp2
            go_ret
            exact ⟨rf_,bl_ HB⟩
           ·rw [if_neg c45] at H;have c45b0:(a0_2 == 0)=false:=beq_eq_false_iff_ne.mpr c45;have c45b1:(a0_2 != 0)=true:=bne_iff_ne.mpr c45;obtain rfl:=Option.some.inj H;obtain ⟨hcz47_0,hcz47_1,hcz47_2,hcz47_3,hcz47_4,hcz47_5⟩:=Uk BK101.out;obtain ⟨hfz47_0,hfz47_1,hfz47_2,hfz47_3,hfz47_4,hfz47_5⟩:=Ul BK101.out;go_wp2
            go_ret
            exact ⟨rf_,bl_ HB⟩
          ·replace c44:=Bool.eq_false_iff.mpr c44;subst c44
           have H1:(some false)=some r:=by rw [if_neg (show ¬ (false=true) by decide)] at H;exact H
           clear H;have H:=H1;clear H1;obtain rfl:=Option.some.inj H;obtain ⟨hcz48_0,hcz48_1,hcz48_2,hcz48_3,hcz48_4,hcz48_5⟩:=Uk BK101.out;obtain ⟨hfz48_0,hfz48_1,hfz48_2,hfz48_3,hfz48_4,hfz48_5⟩:=Ul BK101.out;go_wp2
           go_ret
           exact ⟨rf_,bl_ HB⟩
         ·rw [if_neg c43] at H;have c43b0:(a0_0 == 5)=false:=beq_eq_false_iff_ne.mpr c43;have c43b1:(a0_0 != 5)=true:=bne_iff_ne.mpr c43;by_cases c49:a0_0=9
          ·rw [if_pos c49] at H;have c49b0:(a0_0 == 9)=true:=beq_iff_eq.mpr c49;have c49b1:(a0_0 != 9)=false:=bne_eq_false_iff_eq.mpr c49;clear c49;by_cases c50:a1 ≥ 0
           ·rw [if_pos c50] at H;have c50b0:decide (0≤a1)=true:=decide_eq_true c50;clear c50;by_cases c51:a0_1 ≥ 0
            ·rw [if_pos c51] at H;have c51b0:decide (0≤a0_1)=true:=decide_eq_true c51;clear c51;by_cases c52:a0_1<2
             ·rw [if_pos c52] at H;have c52b0:decide (a0_1<2)=true:=decide_eq_true c52;clear c52;by_cases c53:a0_2=0
              ·rw [if_pos c53] at H;have c53b0:(a0_2 == 0)=true:=beq_iff_eq.mpr c53;have c53b1:(a0_2 != 0)=false:=bne_eq_false_iff_eq.mpr c53;clear c53;obtain rfl:=Option.some.inj H;obtain ⟨hcz54_0,hcz54_1,hcz54_2,hcz54_3,hcz54_4,hcz54_5⟩:=Uk BK101.out;obtain ⟨hfz54_0,hfz54_1,hfz54_2,hfz54_3,hfz54_4,hfz54_5⟩:=Ul BK101.out;go_wp2
               go_ret
               exact ⟨rf_,bl_ HB⟩
              ·rw [if_neg c53] at H;have c53b0:(a0_2 == 0)=false:=beq_eq_false_iff_ne.mpr c53;have c53b1:(a0_2 != 0)=true:=bne_iff_ne.mpr c53;obtain rfl:=Option.some.inj H;obtain ⟨hcz55_0,hcz55_1,hcz55_2,hcz55_3,hcz55_4,hcz55_5⟩:=Uk BK101.out;obtain ⟨hfz55_0,hfz55_1,hfz55_2,hfz55_3,hfz55_4,hfz55_5⟩:=Ul BK101.out;go_wp2
               go_ret
               exact ⟨rf_,bl_ HB⟩
             ·rw [if_neg c52] at H;have c52b0:decide (a0_1<2)=false:=decide_eq_false c52;clear c52;obtain rfl:=Option.some.inj H;obtain ⟨hcz56_0,hcz56_1,hcz56_2,hcz56_3,hcz56_4,hcz56_5⟩:=Uk BK101.out;obtain ⟨hfz56_0,hfz56_1,hfz56_2,hfz56_3,hfz56_4,hfz56_5⟩:=Ul BK101.out;go_wp2
              go_ret
              exact ⟨rf_,bl_ HB⟩
            ·rw [if_neg c51] at H;have c51b0:decide (0≤a0_1)=false:=decide_eq_false c51;clear c51;obtain rfl:=Option.some.inj H;obtain ⟨hcz57_0,hcz57_1,hcz57_2,hcz57_3,hcz57_4,hcz57_5⟩:=Uk BK101.out;obtain ⟨hfz57_0,hfz57_1,hfz57_2,hfz57_3,hfz57_4,hfz57_5⟩:=Ul BK101.out;go_wp2
             go_ret
             exact ⟨rf_,bl_ HB⟩
           ·rw [if_neg c50] at H;have c50b0:decide (0≤a1)=false:=decide_eq_false c50;clear c50;obtain rfl:=Option.some.inj H;obtain ⟨hcz58_0,hcz58_1,hcz58_2,hcz58_3,hcz58_4,hcz58_5⟩:=Uk BK101.out;obtain ⟨hfz58_0,hfz58_1,hfz58_2,hfz58_3,hfz58_4,hfz58_5⟩:=Ul BK101.out;go_wp2
            go_ret
            exact ⟨rf_,bl_ HB⟩
          ·rw [if_neg c49] at H;have c49b0:(a0_0 == 9)=false:=beq_eq_false_iff_ne.mpr c49;have c49b1:(a0_0 != 9)=true:=bne_iff_ne.mpr c49;by_cases c59:a0_0=10
           ·rw [if_pos c59] at H;have c59b0:(a0_0 == 10)=true:=beq_iff_eq.mpr c59;have c59b1:(a0_0 != 10)=false:=bne_eq_false_iff_eq.mpr c59;clear c59;by_cases c60:a0_1 ≥ 0
            ·rw [if_pos c60] at H;have c60b0:decide (0≤a0_1)=true:=decide_eq_true c60;clear c60;by_cases c61:a0_1<2
             ·rw [if_pos c61] at H;have c61b0:decide (a0_1<2)=true:=decide_eq_true c61;clear c61;by_cases c62:a0_2=0
              ·rw [if_pos c62] at H;have c62b0:(a0_2 == 0)=true:=beq_iff_eq.mpr c62;have c62b1:(a0_2 != 0)=false:=bne_eq_false_iff_eq.mpr c62;clear c62;obtain rfl:=Option.some.inj H;obtain ⟨hcz63_0,hcz63_1,hcz63_2,hcz63_3,hcz63_4,hcz63_5⟩:=Uk BK101.out;obtain ⟨hfz63_0,hfz63_1,hfz63_2,hfz63_3,hfz63_4,hfz63_5⟩:=Ul BK101.out;go_wp2
               go_ret
               exact ⟨rf_,bl_ HB⟩
              ·rw [if_neg c62] at H;have c62b0:(a0_2 == 0)=false:=beq_eq_false_iff_ne.mpr c62;have c62b1:(a0_2 != 0)=true:=bne_iff_ne.mpr c62;obtain rfl:=Option.some.inj H;obtain ⟨hcz64_0,hcz64_1,hcz64_2,hcz64_3,hcz64_4,hcz64_5⟩:=Uk BK101.out;obtain ⟨hfz64_0,hfz64_1,hfz64_2,hfz64_3,hfz64_4,hfz64_5⟩:=Ul BK101.out;go_wp2
               go_ret
               exact ⟨rf_,bl_ HB⟩
             ·rw [if_neg c61] at H;have c61b0:decide (a0_1<2)=false:=decide_eq_false c61;clear c61;obtain rfl:=Option.some.inj H;obtain ⟨hcz65_0,hcz65_1,hcz65_2,hcz65_3,hcz65_4,hcz65_5⟩:=Uk BK101.out;obtain ⟨hfz65_0,hfz65_1,hfz65_2,hfz65_3,hfz65_4,hfz65_5⟩:=Ul BK101.out;go_wp2
              go_ret
              exact ⟨rf_,bl_ HB⟩
            ·rw [if_neg c60] at H;have c60b0:decide (0≤a0_1)=false:=decide_eq_false c60;clear c60;obtain rfl:=Option.some.inj H;obtain ⟨hcz66_0,hcz66_1,hcz66_2,hcz66_3,hcz66_4,hcz66_5⟩:=Uk BK101.out;obtain ⟨hfz66_0,hfz66_1,hfz66_2,hfz66_3,hfz66_4,hfz66_5⟩:=Ul BK101.out;go_wp2
             go_ret
             exact ⟨rf_,bl_ HB⟩
           ·rw [if_neg c59] at H;have c59b0:(a0_0 == 10)=false:=beq_eq_false_iff_ne.mpr c59;have c59b1:(a0_0 != 10)=true:=bne_iff_ne.mpr c59;by_cases c67:a0_0=11
            ·rw [if_pos c67] at H;have c67b0:(a0_0 == 11)=true:=beq_iff_eq.mpr c67;have c67b1:(a0_0 != 11)=false:=bne_eq_false_iff_eq.mpr c67;clear c67;by_cases c68:a0_1=0
             ·rw [if_pos c68] at H;have c68b0:(a0_1 == 0)=true:=beq_iff_eq.mpr c68;have c68b1:(a0_1 != 0)=false:=bne_eq_false_iff_eq.mpr c68;clear c68;by_cases c69:a0_2=0
              ·rw [if_pos c69] at H;have c69b0:(a0_2 == 0)=true:=beq_iff_eq.mpr c69;have c69b1:(a0_2 != 0)=false:=bne_eq_false_iff_eq.mpr c69;clear c69;obtain rfl:=Option.some.inj H;obtain ⟨hcz70_0,hcz70_1,hcz70_2,hcz70_3,hcz70_4,hcz70_5⟩:=Uk BK101.out;obtain ⟨hfz70_0,hfz70_1,hfz70_2,hfz70_3,hfz70_4,hfz70_5⟩:=Ul BK101.out;go_wp2
               go_ret
               exact ⟨rf_,bl_ HB⟩
              ·rw [if_neg c69] at H;have c69b0:(a0_2 == 0)=false:=beq_eq_false_iff_ne.mpr c69;have c69b1:(a0_2 != 0)=true:=bne_iff_ne.mpr c69;obtain rfl:=Option.some.inj H;obtain ⟨hcz71_0,hcz71_1,hcz71_2,hcz71_3,hcz71_4,hcz71_5⟩:=Uk BK101.out;obtain ⟨hfz71_0,hfz71_1,hfz71_2,hfz71_3,hfz71_4,hfz71_5⟩:=Ul BK101.out;go_wp2
               go_ret
               exact ⟨rf_,bl_ HB⟩
             ·rw [if_neg c68] at H;have c68b0:(a0_1 == 0)=false:=beq_eq_false_iff_ne.mpr c68;have c68b1:(a0_1 != 0)=true:=bne_iff_ne.mpr c68;obtain rfl:=Option.some.inj H;obtain ⟨hcz72_0,hcz72_1,hcz72_2,hcz72_3,hcz72_4,hcz72_5⟩:=Uk BK101.out;obtain ⟨hfz72_0,hfz72_1,hfz72_2,hfz72_3,hfz72_4,hfz72_5⟩:=Ul BK101.out;go_wp2
              go_ret
              exact ⟨rf_,bl_ HB⟩
            ·rw [if_neg c67] at H;have c67b0:(a0_0 == 11)=false:=beq_eq_false_iff_ne.mpr c67;have c67b1:(a0_0 != 11)=true:=bne_iff_ne.mpr c67;obtain rfl:=Option.some.inj H;obtain ⟨hcz73_0,hcz73_1,hcz73_2,hcz73_3,hcz73_4,hcz73_5⟩:=Uk BK101.out;obtain ⟨hfz73_0,hfz73_1,hfz73_2,hfz73_3,hfz73_4,hfz73_5⟩:=Ul BK101.out;go_wp2
             go_ret
             exact ⟨rf_,bl_ HB⟩
end Go.Proofs.YtdkcjecllbdljaaDoor.GCode
