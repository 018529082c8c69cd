import Derived.Test.YtdkcjecllbdljaaDoorCFnCodeLines22
import Derived.Test.YtdkcjecllbdljaaDoorCFnCodeLines24
namespace Go.Proofs.YtdkcjecllbdljaaDoor.GCode
open Go.RowKit Go.Proofs.YtdkcjecllbdljaaDoorW.PrintWords Go.Proofs.YtdkcjecllbdljaaDoorW.PrintLast Go.Proofs.YtdkcjecllbdljaaDoorW.PrintMore
attribute [local go_sem] Zy Ua Uo Uq Zp Zq Zz Ub
set_option linter.unusedVariables false
set_option linter.unusedSimpArgs false
mutual
def Xh.j0:Nat→Int→Bool→Int→Int→Int→Int→Option (Bool)
 |0,_,_,_,_,_,_=>none
 |k+1,x1,x5,x104000,x104001,x104002,x104003=>if x104000=1 then (Xh.j1 k x1 x5 x104000 (x104000 == 1) x104000 x104001 x104002 x104003) else (if x104000=2 then (Xh.j1 k x1 x5 x104000 (x104000 == 2) x104000 x104001 x104002 x104003) else (if x104000=3 then (Xh.j1 k x1 x5 x104000 (x104000 == 3) x104000 x104001 x104002 x104003) else (if x104000=4 then (Xh.j1 k x1 x5 x104000 (x104000 == 4) x104000 x104001 x104002 x104003) else (Xh.j1 k x1 x5 x104000 (x104000 == 5) x104000 x104001 x104002 x104003))))
def Xh.j1:Nat→Int→Bool→Int→Bool→Int→Int→Int→Int→Option (Bool)
 |0,_,_,_,_,_,_,_,_=>none
 |k+1,x1,x5,x15,x16,x104000,x104001,x104002,x104003=>if x16=true then ((Xr.f k x104000 x104001 x104002 x104003 ([]:List (S62)) ([]:List (S62)) (-1)).bind fun t104=>(some t104)) else (if x15=6 then (if x5=true then (if x104002=0 then (if x104003 ≥ 0 then (some (decide (x104003<x1))) else (some false)) else (some false)) else (some false)) else (if x15=7 then (if x104001=0 then (if x104002=0 then (if x104003 ≥ 0 then (some (decide (x104003<x1))) else (some false)) else (some false)) else (some false)) else (if x15=8 then (Xh.j2 k x15 (x15 == 8) x104000 x104001 x104002 x104003) else (Xh.j2 k x15 (x15 == 9) x104000 x104001 x104002 x104003))))
def Xh.j2:Nat→Int→Bool→Int→Int→Int→Int→Option (Bool)
 |0,_,_,_,_,_,_=>none
 |k+1,x15,x72,x104000,x104001,x104002,x104003=>if x72=true then (if x104001 ≥ 0 then (if x104001<2 then (if x104002=0 then (some (x104003 == 0)) else (some false)) else (some false)) else (some false)) else (if x15=10 then (Xh.j3 k x15 (x15 == 10) x104000 x104001 x104002 x104003) else (Xh.j3 k x15 (x15 == 11) x104000 x104001 x104002 x104003))
def Xh.j3:Nat→Int→Bool→Int→Int→Int→Int→Option (Bool)
 |0,_,_,_,_,_,_=>none
 |k+1,x15,x93,x104000,x104001,x104002,x104003=>if x93=true then (if x104001 ≥ 0 then (if x104001<2 then (if x104002=0 then (some (x104003 == 0)) else (some false)) else (some false)) else (some false)) else (if x15=12 then (if x104001=0 then (if x104002=0 then (some (x104003 == 0)) else (some false)) else (some false)) else (if x15=13 then (if x104001=0 then (if x104002=0 then (some (x104003 == 0)) else (some false)) else (some false)) else (some false)))
end
def Xh.f (k:Nat) (a0_0:Int) (a0_1:Int) (a0_2:Int) (a0_3:Int) (a1:Int):Option (Bool):=if a0_1 ≥ 0 then (Xh.j0 k a1 (decide (a0_1<3)) a0_0 a0_1 a0_2 a0_3) else (Xh.j0 k a1 false a0_0 a0_1 a0_2 a0_3)
set_option maxHeartbeats 8000000 in
set_option maxRecDepth 100000 in
theorem Xh.calls (k:Nat) (a0_0:Int) (a0_1:Int) (a0_2:Int) (a0_3:Int) (a1:Int) (r:Bool) (w:World) (h:Xh.f k a0_0 a0_1 a0_2 a0_3 a1=some r) :
  Calls Tryd.prog 20 #[.agg #[.int .i64 a0_0,.int .i64 a0_1,.int .i64 a0_2,.int .i64 a0_3],.int .i64 a1] w fun e w'=>e=.returned (.bool r)∧Below w.heap.size w w':=by
 have hu36:=Tryd.underlying36;have hu62:=Tryd.underlying62;have HB:=Xa.mk (Below.refl w.heap.size w);have H:(if a0_1 ≥ 0 then (Xh.j0 k a1 (decide (a0_1<3)) a0_0 a0_1 a0_2 a0_3) else (Xh.j0 k a1 false a0_0 a0_1 a0_2 a0_3))=some r:=h;clear h;have HC3:=Xa.mk H;clear H
 go_enter Tryd.func20,Tryd.ntmps20
 go_upto_region 1 with (first|((with_reducible refine Xq (N:=2) rfl ?_);refine Yq ?hg (N:=2) ?hd (cs:=#[.int .i64 a0_0,.int .i64 a0_1,.int .i64 a0_2,.int .i64 a0_3]) (t:=36) ?hr ?_;(case hd=>rfl);(case hg=>rfl);(case hr=>first|(go_simp;done)|(go_simp;rfl));intro gb103 hg w4 hbox hb;have n0_:=Xa.mk (Xc (bl_ HB) hb);have n1_:=Xa.mk (hbox);have n2_:=Xa.mk ((by rw [hg];exact (Xd (bl_ HB)):w.heap.size≤gb103));have n3_:=Xa.mk ((by rw [hg];exact (Xd (bl_ HB)):w.heap.size≤gb103));clear HB;have HB:=n0_;have BK103:=n1_;have GW103:=n2_;have GE103:=n3_;clear n0_ n1_ n2_ n3_;clear hb hbox hg))
 (try simp only [Act.put,List.setIfInBounds_toArray,List.set_cons_zero,List.set_cons_succ])
 go_cut [5] (fun v5 wc=>∃ (kq:Nat) (x5_2:Bool),v5=.bool x5_2∧Xa (Xh.j0 kq a1 x5_2 a0_0 a0_1 a0_2 a0_3=some r)∧Xa (kq≤k)∧Xa (wc.heap[gb103]?=some (.cells #[.int .i64 a0_0,.int .i64 a0_1,.int .i64 a0_2,.int .i64 a0_3] 36 (0,0)))∧Xa (Below w.heap.size w wc))
 case first=>
  have H:=HC3.out;clear HC3;by_cases c5:a0_1 ≥ 0
  ·rw [if_pos c5] at H;have c5b0:decide (0≤a0_1)=true:=decide_eq_true c5;clear c5
   (first|rw [c5b0]|(simp only [Xt,Xu];rw [c5b0])|skip)
   have H':=Xa.mk H;clear H;obtain ⟨hcz6_0,hcz6_1,hcz6_2,hcz6_3⟩:=Um BK103.out;obtain ⟨hfz6_0,hfz6_1,hfz6_2,hfz6_3⟩:=Un BK103.out;go_wp2
   go_meet
   case rel=>exact ⟨_,(decide (a0_1<3)),(by first|rfl|(simp;done)|(simp [*];done)),H',⟨by first|omega|exact Nat.le_refl _⟩,⟨ba_ BK103⟩,⟨bl_ HB⟩⟩
  ·rw [if_neg c5] at H;have c5b0:decide (0≤a0_1)=false:=decide_eq_false c5;clear c5
   (first|rw [c5b0]|(simp only [Xt,Xu];rw [c5b0])|skip)
   have H':=Xa.mk H;clear H;obtain ⟨hcz7_0,hcz7_1,hcz7_2,hcz7_3⟩:=Um BK103.out;obtain ⟨hfz7_0,hfz7_1,hfz7_2,hfz7_3⟩:=Un BK103.out;go_wp2
   go_meet
   case rel=>exact ⟨_,(false),(by first|rfl|(simp;done)|(simp [*];done)),H',⟨by first|omega|exact Nat.le_refl _⟩,⟨ba_ BK103⟩,⟨bl_ HB⟩⟩
 case rest=>
  clear HC3
  try clear c2
  try clear p2
  try clear c5
  try clear c5b0
  try clear hcz6_0
  try clear hcz6_1
  try clear hcz6_2
  try clear hcz6_3
  try clear hcz7_0
  try clear hcz7_1
  try clear hcz7_2
  try clear hcz7_3
  try clear hfz6_0
  try clear hfz6_1
  try clear hfz6_2
  try clear hfz6_3
  try clear hfz7_0
  try clear hfz7_1
  try clear hfz7_2
  try clear hfz7_3
  obtain ⟨kq,x5_2,rfl,HA,HJ2,BK103,HB⟩:=hcut
  cases kq with
  |zero=>exact absurd HA.out (by simp [Xh.j0])
  |succ kj2=>
   have H:=HA.out;clear HA;simp only [Xh.j0] at H;have HC8:=Xa.mk H;clear H;obtain ⟨hcz9_0,hcz9_1,hcz9_2,hcz9_3⟩:=Um BK103.out;obtain ⟨hfz9_0,hfz9_1,hfz9_2,hfz9_3⟩:=Un BK103.out
   go_upto_if 16 with (fail)
   go_cut [16] (fun v16 wc=>∃ (kq:Nat) (x16_7:Bool),v16=.bool x16_7∧Xa (Xh.j1 kq a1 x5_2 a0_0 x16_7 a0_0 a0_1 a0_2 a0_3=some r)∧Xa (kq≤kj2)∧Xa (wc.heap[gb103]?=some (.cells #[.int .i64 a0_0,.int .i64 a0_1,.int .i64 a0_2,.int .i64 a0_3] 36 (0,0)))∧Xa (Below w.heap.size w wc))
   case first=>
    have H:=HC8.out;clear HC8;by_cases c10:a0_0=1
    ·rw [if_pos c10] at H;have c10b0:(a0_0 == 1)=true:=beq_iff_eq.mpr c10;have c10b1:(a0_0 != 1)=false:=bne_eq_false_iff_eq.mpr c10;clear c10
     (first|rw [c10b0]|(simp only [Xt,Xu];rw [c10b0])|skip)
     have H':=Xa.mk H;clear H;go_wp2
     go_meet
     case rel=>exact ⟨_,((a0_0 == 1)),(by first|rfl|(simp;done)|(simp [*];done)),H',⟨by have:=HJ2.out;first|omega|exact Nat.le_refl _⟩,⟨ba_ BK103⟩,⟨bl_ HB⟩⟩
    ·rw [if_neg c10] at H;have c10b0:(a0_0 == 1)=false:=beq_eq_false_iff_ne.mpr c10;have c10b1:(a0_0 != 1)=true:=bne_iff_ne.mpr c10
     (first|rw [c10b0]|(simp only [Xt,Xu];rw [c10b0])|skip)
     by_cases c11:a0_0=2
     ·rw [if_pos c11] at H;have c11b0:(a0_0 == 2)=true:=beq_iff_eq.mpr c11;have c11b1:(a0_0 != 2)=false:=bne_eq_false_iff_eq.mpr c11;clear c11;have H':=Xa.mk H;clear H;go_wp2
      go_meet
      case rel=>exact ⟨_,((a0_0 == 2)),(by first|rfl|(simp;done)|(simp [*];done)),H',⟨by have:=HJ2.out;first|omega|exact Nat.le_refl _⟩,⟨ba_ BK103⟩,⟨bl_ HB⟩⟩
     ·rw [if_neg c11] at H;have c11b0:(a0_0 == 2)=false:=beq_eq_false_iff_ne.mpr c11;have c11b1:(a0_0 != 2)=true:=bne_iff_ne.mpr c11;by_cases c12:a0_0=3
      ·rw [if_pos c12] at H;have c12b0:(a0_0 == 3)=true:=beq_iff_eq.mpr c12;have c12b1:(a0_0 != 3)=false:=bne_eq_false_iff_eq.mpr c12;clear c12;have H':=Xa.mk H;clear H;go_wp2
       go_meet
       case rel=>exact ⟨_,((a0_0 == 3)),(by first|rfl|(simp;done)|(simp [*];done)),H',⟨by have:=HJ2.out;first|omega|exact Nat.le_refl _⟩,⟨ba_ BK103⟩,⟨bl_ HB⟩⟩
      ·rw [if_neg c12] at H;have c12b0:(a0_0 == 3)=false:=beq_eq_false_iff_ne.mpr c12;have c12b1:(a0_0 != 3)=true:=bne_iff_ne.mpr c12;by_cases c13:a0_0=4
       ·rw [if_pos c13] at H;have c13b0:(a0_0 == 4)=true:=beq_iff_eq.mpr c13;have c13b1:(a0_0 != 4)=false:=bne_eq_false_iff_eq.mpr c13;clear c13;have H':=Xa.mk H;clear H;go_wp2
        go_meet
        case rel=>exact ⟨_,((a0_0 == 4)),(by first|rfl|(simp;done)|(simp [*];done)),H',⟨by have:=HJ2.out;first|omega|exact Nat.le_refl _⟩,⟨ba_ BK103⟩,⟨bl_ HB⟩⟩
       ·rw [if_neg c13] at H;have c13b0:(a0_0 == 4)=false:=beq_eq_false_iff_ne.mpr c13;have c13b1:(a0_0 != 4)=true:=bne_iff_ne.mpr c13;have H':=Xa.mk H;clear H;go_wp2
        go_meet
        case rel=>exact ⟨_,((a0_0 == 5)),(by first|rfl|(simp;done)|(simp [*];done)),H',⟨by have:=HJ2.out;first|omega|exact Nat.le_refl _⟩,⟨ba_ BK103⟩,⟨bl_ HB⟩⟩
   case rest=>
    clear HC8
    try clear c1
    try clear c2
    try clear p2
    try clear c5
    try clear c5b0
    try clear c10
    try clear c10b0
    try clear c10b1
    try clear c11
    try clear c11b0
    try clear c11b1
    try clear c12
    try clear c12b0
    try clear c12b1
    try clear c13
    try clear c13b0
    try clear c13b1
    try clear hcz6_0
    try clear hcz6_1
    try clear hcz6_2
    try clear hcz6_3
    try clear hcz7_0
    try clear hcz7_1
    try clear hcz7_2
    try clear hcz7_3
    try clear hcz9_0
    try clear hcz9_1
    try clear hcz9_2
    try clear hcz9_3
    try clear hfz6_0
    try clear hfz6_1
    try clear hfz6_2
    try clear hfz6_3
    try clear hfz7_0
    try clear hfz7_1
    try clear hfz7_2
    try clear hfz7_3
    try clear hfz9_0
    try clear hfz9_1
    try clear hfz9_2
    try clear hfz9_3
    try clear p2
    obtain ⟨kq,x16_7,rfl,HA,HJ7,BK103,HB⟩:=hcut
    cases kq with
    |zero=>exact absurd HA.out (by simp [Xh.j1])
    |succ kj7=>
     have H:=HA.out;clear HA;simp only [Xh.j1] at H;by_cases c14:x16_7=true
     ·subst c14
      have H1:((Xr.f kj7 a0_0 a0_1 a0_2 a0_3 ([]:List (S62)) ([]:List (S62)) (-1)).bind fun t104=>(some t104))=some r:=by rw [if_pos rfl] at H;exact H
      clear H;have H:=H1;clear H1;replace H:=Option.bind_eq_some_iff.mp H;obtain ⟨t104,A150,H⟩:=H;replace H:(some t104)=some r:=H;have A15:=Xa.mk A150;clear A150;obtain rfl:=Option.some.inj H;obtain ⟨hcz16_0,hcz16_1,hcz16_2,hcz16_3⟩:=Um BK103.out;obtain ⟨hfz16_0,hfz16_1,hfz16_2,hfz16_3⟩:=Un BK103.out;go_wp2_with (first|((with_reducible refine Xj (f:=31) rfl ?_);refine Yu (some 31) rfl rfl Tryd.func31 (by kernel_rfl) rfl #[.agg #[.int .i64 a0_0,.int .i64 a0_1,.int .i64 a0_2,.int .i64 a0_3,.slice none 0 0,.slice none 0 0],.int .i64 (-1)] rfl ga_ ?_;(refine (Xr.calls kj7 a0_0 a0_1 a0_2 a0_3 _ _ ([]:List (S62)) _ _ ([]:List (S62)) (-1) t104 _ ?side1 ?side2 ?side3 ?side4 A15.out).mono ?_);(case side1=>exact Kd.C_nil _ _);(case side2=>exact Nat.le_refl _);(case side3=>exact Kd.C_nil _ _);(case side4=>exact Nat.le_refl _);rintro e w17 ⟨rfl,hb⟩;refine ⟨_,rfl,?_⟩;have n0_:=Xa.mk (Ym (g:=gb103) (o:=.cells #[.int .i64 a0_0,.int .i64 a0_1,.int .i64 a0_2,.int .i64 a0_3] 36 (0,0)) (ba_ BK103) hb);have n1_:=Xa.mk (Xc (bl_ HB) hb);clear BK103;clear HB;have BK103:=n0_;have HB:=n1_;clear n0_ n1_;(try clear hb);(try clear hb2);(try clear hk);(try clear hi)))
      go_ret
      exact ⟨rf_,bl_ HB⟩
     ·replace c14:=Bool.eq_false_iff.mpr c14;subst c14
      have H1:(if a0_0=6 then (if x5_2=true then (if a0_2=0 then (if a0_3 ≥ 0 then (some (decide (a0_3<a1))) else (some false)) else (some false)) else (some false)) else (if a0_0=7 then (if a0_1=0 then (if a0_2=0 then (if a0_3 ≥ 0 then (some (decide (a0_3<a1))) else (some false)) else (some false)) else (some false)) else (if a0_0=8 then (Xh.j2 kj7 a0_0 (a0_0 == 8) a0_0 a0_1 a0_2 a0_3) else (Xh.j2 kj7 a0_0 (a0_0 == 9) a0_0 a0_1 a0_2 a0_3))))=some r:=by rw [if_neg (show ¬ (false=true) by decide)] at H;exact H
      clear H;have H:=H1;clear H1;by_cases c18:a0_0=6
      ·rw [if_pos c18] at H;have c18b0:(a0_0 == 6)=true:=beq_iff_eq.mpr c18;have c18b1:(a0_0 != 6)=false:=bne_eq_false_iff_eq.mpr c18;clear c18;by_cases c19:x5_2=true
       ·subst c19
        have H1:(if a0_2=0 then (if a0_3 ≥ 0 then (some (decide (a0_3<a1))) else (some false)) else (some false))=some r:=by rw [if_pos rfl] at H;exact H
        clear H;have H:=H1;clear H1;by_cases c20:a0_2=0
        ·rw [if_pos c20] at H;have c20b0:(a0_2 == 0)=true:=beq_iff_eq.mpr c20;have c20b1:(a0_2 != 0)=false:=bne_eq_false_iff_eq.mpr c20;clear c20;by_cases c21:a0_3 ≥ 0
         ·rw [if_pos c21] at H;have c21b0:decide (0≤a0_3)=true:=decide_eq_true c21;clear c21;obtain rfl:=Option.some.inj H;obtain ⟨hcz22_0,hcz22_1,hcz22_2,hcz22_3⟩:=Um BK103.out;obtain ⟨hfz22_0,hfz22_1,hfz22_2,hfz22_3⟩:=Un BK103.out;go_wp2
          go_ret
          exact ⟨rf_,bl_ HB⟩
         ·rw [if_neg c21] at H;have c21b0:decide (0≤a0_3)=false:=decide_eq_false c21;clear c21;obtain rfl:=Option.some.inj H;obtain ⟨hcz23_0,hcz23_1,hcz23_2,hcz23_3⟩:=Um BK103.out;obtain ⟨hfz23_0,hfz23_1,hfz23_2,hfz23_3⟩:=Un BK103.out;go_wp2
          go_ret
          exact ⟨rf_,bl_ HB⟩
        ·rw [if_neg c20] at H;have c20b0:(a0_2 == 0)=false:=beq_eq_false_iff_ne.mpr c20;have c20b1:(a0_2 != 0)=true:=bne_iff_ne.mpr c20;obtain rfl:=Option.some.inj H;obtain ⟨hcz24_0,hcz24_1,hcz24_2,hcz24_3⟩:=Um BK103.out;obtain ⟨hfz24_0,hfz24_1,hfz24_2,hfz24_3⟩:=Un BK103.out;go_wp2
         go_ret
         exact ⟨rf_,bl_ HB⟩
       ·replace c19:=Bool.eq_false_iff.mpr c19;subst c19
        have H1:(some false)=some r:=by rw [if_neg (show ¬ (false=true) by decide)] at H;exact H
        clear H;have H:=H1;clear H1;obtain rfl:=Option.some.inj H;go_wp2
        go_ret
        exact ⟨rf_,bl_ HB⟩
      ·rw [if_neg c18] at H;have c18b0:(a0_0 == 6)=false:=beq_eq_false_iff_ne.mpr c18;have c18b1:(a0_0 != 6)=true:=bne_iff_ne.mpr c18;by_cases c25:a0_0=7
       ·rw [if_pos c25] at H;have c25b0:(a0_0 == 7)=true:=beq_iff_eq.mpr c25;have c25b1:(a0_0 != 7)=false:=bne_eq_false_iff_eq.mpr c25;clear c25;by_cases c26:a0_1=0
        ·rw [if_pos c26] at H;have c26b0:(a0_1 == 0)=true:=beq_iff_eq.mpr c26;have c26b1:(a0_1 != 0)=false:=bne_eq_false_iff_eq.mpr c26;clear c26;by_cases c27:a0_2=0
         ·rw [if_pos c27] at H;have c27b0:(a0_2 == 0)=true:=beq_iff_eq.mpr c27;have c27b1:(a0_2 != 0)=false:=bne_eq_false_iff_eq.mpr c27;clear c27;by_cases c28:a0_3 ≥ 0
          ·rw [if_pos c28] at H;have c28b0:decide (0≤a0_3)=true:=decide_eq_true c28;clear c28;obtain rfl:=Option.some.inj H;obtain ⟨hcz29_0,hcz29_1,hcz29_2,hcz29_3⟩:=Um BK103.out;obtain ⟨hfz29_0,hfz29_1,hfz29_2,hfz29_3⟩:=Un BK103.out;go_wp2
           go_ret
           exact ⟨rf_,bl_ HB⟩
          ·rw [if_neg c28] at H;have c28b0:decide (0≤a0_3)=false:=decide_eq_false c28;clear c28;obtain rfl:=Option.some.inj H;obtain ⟨hcz30_0,hcz30_1,hcz30_2,hcz30_3⟩:=Um BK103.out;obtain ⟨hfz30_0,hfz30_1,hfz30_2,hfz30_3⟩:=Un BK103.out;go_wp2
           go_ret
           exact ⟨rf_,bl_ HB⟩
         ·rw [if_neg c27] at H;have c27b0:(a0_2 == 0)=false:=beq_eq_false_iff_ne.mpr c27;have c27b1:(a0_2 != 0)=true:=bne_iff_ne.mpr c27;obtain rfl:=Option.some.inj H;obtain ⟨hcz31_0,hcz31_1,hcz31_2,hcz31_3⟩:=Um BK103.out;obtain ⟨hfz31_0,hfz31_1,hfz31_2,hfz31_3⟩:=Un BK103.out;go_wp2
          go_ret
          exact ⟨rf_,bl_ HB⟩
        ·rw [if_neg c26] at H;have c26b0:(a0_1 == 0)=false:=beq_eq_false_iff_ne.mpr c26;have c26b1:(a0_1 != 0)=true:=bne_iff_ne.mpr c26;obtain rfl:=Option.some.inj H;obtain ⟨hcz32_0,hcz32_1,hcz32_2,hcz32_3⟩:=Um BK103.out;obtain ⟨hfz32_0,hfz32_1,hfz32_2,hfz32_3⟩:=Un BK103.out;go_wp2
         go_ret
         exact ⟨rf_,bl_ HB⟩
       ·rw [if_neg c25] at H;have c25b0:(a0_0 == 7)=false:=beq_eq_false_iff_ne.mpr c25;have c25b1:(a0_0 != 7)=true:=bne_iff_ne.mpr c25;have HC33:=Xa.mk H;clear H
        go_upto_if 72 with (fail)
        go_cut [72] (fun v72 wc=>∃ (kq:Nat) (x72_32:Bool),v72=.bool x72_32∧Xa (Xh.j2 kq a0_0 x72_32 a0_0 a0_1 a0_2 a0_3=some r)∧Xa (kq≤kj7)∧Xa (wc.heap[gb103]?=some (.cells #[.int .i64 a0_0,.int .i64 a0_1,.int .i64 a0_2,.int .i64 a0_3] 36 (0,0)))∧Xa (Below w.heap.size w wc))
        case first=>
         have H:=HC33.out;clear HC33;by_cases c34:a0_0=8
         ·rw [if_pos c34] at H;have c34b0:(a0_0 == 8)=true:=beq_iff_eq.mpr c34;have c34b1:(a0_0 != 8)=false:=bne_eq_false_iff_eq.mpr c34;clear c34
          (first|rw [c34b0]|(simp only [Xt,Xu];rw [c34b0])|skip)
          have H':=Xa.mk H;clear H;go_wp2
          go_meet
          case rel=>exact ⟨_,((a0_0 == 8)),(by first|rfl|(simp;done)|(simp [*];done)),H',⟨by have:=HJ2.out;have:=HJ7.out;first|omega|exact Nat.le_refl _⟩,⟨ba_ BK103⟩,⟨bl_ HB⟩⟩
         ·rw [if_neg c34] at H;have c34b0:(a0_0 == 8)=false:=beq_eq_false_iff_ne.mpr c34;have c34b1:(a0_0 != 8)=true:=bne_iff_ne.mpr c34
          (first|rw [c34b0]|(simp only [Xt,Xu];rw [c34b0])|skip)
          have H':=Xa.mk H;clear H;go_wp2
          go_meet
          case rel=>exact ⟨_,((a0_0 == 9)),(by first|rfl|(simp;done)|(simp [*];done)),H',⟨by have:=HJ2.out;have:=HJ7.out;first|omega|exact Nat.le_refl _⟩,⟨ba_ BK103⟩,⟨bl_ HB⟩⟩
        case rest=>
         clear HC33
         try clear c1
         try clear c2
         try clear p2
         try clear c3
         try clear c5
         try clear c5b0
         try clear c10
         try clear c10b0
         try clear c10b1
         try clear c11
         try clear c11b0
         try clear c11b1
         try clear c12
         try clear c12b0
         try clear c12b1
         try clear c13
         try clear c13b0
         try clear c13b1
         try clear c14
         try clear c18
         try clear c18b0
         try clear c18b1
         try clear c19
         try clear c20
         try clear c20b0
         try clear c20b1
         try clear c21
         try clear c21b0
         try clear c25
         try clear c25b0
         try clear c25b1
         try clear c26
         try clear c26b0
         try clear c26b1
         try clear c27
         try clear c27b0
         try clear c27b1
         try clear c28
         try clear c28b0
         try clear c31
         try clear c34
         try clear c34b0
         try clear c34b1
         try clear hcz16_0
         try clear hcz16_1
         try clear hcz16_2
         try clear hcz16_3
         try clear hcz22_0
         try clear hcz22_1
         try clear hcz22_2
         try clear hcz22_3
         try clear hcz23_0
         try clear hcz23_1
         try clear hcz23_2
         try clear hcz23_3
         try clear hcz24_0
         try clear hcz24_1
         try clear hcz24_2
         try clear hcz24_3
         try clear hcz29_0
         try clear hcz29_1
         try clear hcz29_2
         try clear hcz29_3
         try clear hcz30_0
         try clear hcz30_1
         try clear hcz30_2
         try clear hcz30_3
         try clear hcz31_0
         try clear hcz31_1
         try clear hcz31_2
         try clear hcz31_3
         try clear hcz32_0
         try clear hcz32_1
         try clear hcz32_2
         try clear hcz32_3
         try clear hcz6_0
         try clear hcz6_1
         try clear hcz6_2
         try clear hcz6_3
         try clear hcz7_0
         try clear hcz7_1
         try clear hcz7_2
         try clear hcz7_3
         try clear hcz9_0
         try clear hcz9_1
         try clear hcz9_2
         try clear hcz9_3
         try clear hfz16_0
         try clear hfz16_1
         try clear hfz16_2
         try clear hfz16_3
         try clear hfz22_0
         try clear hfz22_1
         try clear hfz22_2
         try clear hfz22_3
         try clear hfz23_0
         try clear hfz23_1
         try clear hfz23_2
         try clear hfz23_3
         try clear hfz24_0
         try clear hfz24_1
         try clear hfz24_2
         try clear hfz24_3
         try clear hfz29_0
         try clear hfz29_1
         try clear hfz29_2
         try clear hfz29_3
         try clear hfz30_0
         try clear hfz30_1
         try clear hfz30_2
         try clear hfz30_3
         try clear hfz31_0
         try clear hfz31_1
         try clear hfz31_2
         try clear hfz31_3
         try clear hfz32_0
         try clear hfz32_1
         try clear hfz32_2
         try clear hfz32_3
         try clear hfz6_0
         try clear hfz6_1
         try clear hfz6_2
         try clear hfz6_3
         try clear hfz7_0
         try clear hfz7_1
         try clear hfz7_2
         try clear hfz7_3
         try clear hfz9_0
         try clear hfz9_1
         try clear hfz9_2
         try clear hfz9_3
         try clear p2
         obtain ⟨kq,x72_32,rfl,HA,HJ32,BK103,HB⟩:=hcut
         cases kq with
         |zero=>exact absurd HA.out (by simp [Xh.j2])
         |succ kj32=>
          have H:=HA.out;clear HA;simp only [Xh.j2] at H;by_cases c35:x72_32=true
          ·subst c35
           have H1:(if a0_1 ≥ 0 then (if a0_1<2 then (if a0_2=0 then (some (a0_3 == 0)) else (some false)) else (some false)) else (some false))=some r:=by rw [if_pos rfl] at H;exact H
           clear H;have H:=H1;clear H1;by_cases c36:a0_1 ≥ 0
           ·rw [if_pos c36] at H;have c36b0:decide (0≤a0_1)=true:=decide_eq_true c36;clear c36;by_cases c37:a0_1<2
            ·rw [if_pos c37] at H;have c37b0:decide (a0_1<2)=true:=decide_eq_true c37;clear c37;by_cases c38:a0_2=0
             ·rw [if_pos c38] at H;have c38b0:(a0_2 == 0)=true:=beq_iff_eq.mpr c38;have c38b1:(a0_2 != 0)=false:=bne_eq_false_iff_eq.mpr c38;clear c38;obtain rfl:=Option.some.inj H;obtain ⟨hcz39_0,hcz39_1,hcz39_2,hcz39_3⟩:=Um BK103.out;obtain ⟨hfz39_0,hfz39_1,hfz39_2,hfz39_3⟩:=Un BK103.out;go_wp2
              go_ret
              exact ⟨rf_,bl_ HB⟩
             ·rw [if_neg c38] at H;have c38b0:(a0_2 == 0)=false:=beq_eq_false_iff_ne.mpr c38;have c38b1:(a0_2 != 0)=true:=bne_iff_ne.mpr c38;obtain rfl:=Option.some.inj H;obtain ⟨hcz40_0,hcz40_1,hcz40_2,hcz40_3⟩:=Um BK103.out;obtain ⟨hfz40_0,hfz40_1,hfz40_2,hfz40_3⟩:=Un BK103.out;go_wp2
              go_ret
              exact ⟨rf_,bl_ HB⟩
            ·rw [if_neg c37] at H;have c37b0:decide (a0_1<2)=false:=decide_eq_false c37;clear c37;obtain rfl:=Option.some.inj H;obtain ⟨hcz41_0,hcz41_1,hcz41_2,hcz41_3⟩:=Um BK103.out;obtain ⟨hfz41_0,hfz41_1,hfz41_2,hfz41_3⟩:=Un BK103.out;go_wp2
             go_ret
             exact ⟨rf_,bl_ HB⟩
           ·rw [if_neg c36] at H;have c36b0:decide (0≤a0_1)=false:=decide_eq_false c36;clear c36;obtain rfl:=Option.some.inj H;obtain ⟨hcz42_0,hcz42_1,hcz42_2,hcz42_3⟩:=Um BK103.out;obtain ⟨hfz42_0,hfz42_1,hfz42_2,hfz42_3⟩:=Un BK103.out;go_wp2
            go_ret
            exact ⟨rf_,bl_ HB⟩
          ·replace c35:=Bool.eq_false_iff.mpr c35;subst c35
           have H1:(if a0_0=10 then (Xh.j3 kj32 a0_0 (a0_0 == 10) a0_0 a0_1 a0_2 a0_3) else (Xh.j3 kj32 a0_0 (a0_0 == 11) a0_0 a0_1 a0_2 a0_3))=some r:=by rw [if_neg (show ¬ (false=true) by decide)] at H;exact H
           clear H;have H:=H1;clear H1;have HC43:=Xa.mk H;clear H
           go_upto_if 93 with (fail)
           go_cut [93] (fun v93 wc=>∃ (kq:Nat) (x93_42:Bool),v93=.bool x93_42∧Xa (Xh.j3 kq a0_0 x93_42 a0_0 a0_1 a0_2 a0_3=some r)∧Xa (kq≤kj32)∧Xa (wc.heap[gb103]?=some (.cells #[.int .i64 a0_0,.int .i64 a0_1,.int .i64 a0_2,.int .i64 a0_3] 36 (0,0)))∧Xa (Below w.heap.size w wc))
           case first=>
            have H:=HC43.out;clear HC43;by_cases c44:a0_0=10
            ·rw [if_pos c44] at H;have c44b0:(a0_0 == 10)=true:=beq_iff_eq.mpr c44;have c44b1:(a0_0 != 10)=false:=bne_eq_false_iff_eq.mpr c44;clear c44
             (first|rw [c44b0]|(simp only [Xt,Xu];rw [c44b0])|skip)
             have H':=Xa.mk H;clear H;go_wp2
             go_meet
             case rel=>exact ⟨_,((a0_0 == 10)),(by first|rfl|(simp;done)|(simp [*];done)),H',⟨by have:=HJ2.out;have:=HJ7.out;have:=HJ32.out;first|omega|exact Nat.le_refl _⟩,⟨ba_ BK103⟩,⟨bl_ HB⟩⟩
            ·rw [if_neg c44] at H;have c44b0:(a0_0 == 10)=false:=beq_eq_false_iff_ne.mpr c44;have c44b1:(a0_0 != 10)=true:=bne_iff_ne.mpr c44
             (first|rw [c44b0]|(simp only [Xt,Xu];rw [c44b0])|skip)
             have H':=Xa.mk H;clear H;go_wp2
             go_meet
             case rel=>exact ⟨_,((a0_0 == 11)),(by first|rfl|(simp;done)|(simp [*];done)),H',⟨by have:=HJ2.out;have:=HJ7.out;have:=HJ32.out;first|omega|exact Nat.le_refl _⟩,⟨ba_ BK103⟩,⟨bl_ HB⟩⟩
           case rest=>
            clear HC43
            try clear c1
            try clear c2
            try clear p2
            try clear c3
            try clear c4
            try clear c5
            try clear c5b0
            try clear c10
            try clear c10b0
            try clear c10b1
            try clear c11
            try clear c11b0
            try clear c11b1
            try clear c12
            try clear c12b0
            try clear c12b1
            try clear c13
            try clear c13b0
            try clear c13b1
            try clear c14
            try clear c18
            try clear c18b0
            try clear c18b1
            try clear c19
            try clear c20
            try clear c20b0
            try clear c20b1
            try clear c21
            try clear c21b0
            try clear c25
            try clear c25b0
            try clear c25b1
            try clear c26
            try clear c26b0
            try clear c26b1
            try clear c27
            try clear c27b0
            try clear c27b1
            try clear c28
            try clear c28b0
            try clear c31
            try clear c34
            try clear c34b0
            try clear c34b1
            try clear c35
            try clear c36
            try clear c36b0
            try clear c37
            try clear c37b0
            try clear c38
            try clear c38b0
            try clear c38b1
            try clear c44
            try clear c44b0
            try clear c44b1
            try clear hcz16_0
            try clear hcz16_1
            try clear hcz16_2
            try clear hcz16_3
            try clear hcz22_0
            try clear hcz22_1
            try clear hcz22_2
            try clear hcz22_3
            try clear hcz23_0
            try clear hcz23_1
            try clear hcz23_2
            try clear hcz23_3
            try clear hcz24_0
            try clear hcz24_1
            try clear hcz24_2
            try clear hcz24_3
            try clear hcz29_0
            try clear hcz29_1
            try clear hcz29_2
            try clear hcz29_3
            try clear hcz30_0
            try clear hcz30_1
            try clear hcz30_2
            try clear hcz30_3
            try clear hcz31_0
            try clear hcz31_1
            try clear hcz31_2
            try clear hcz31_3
            try clear hcz32_0
            try clear hcz32_1
            try clear hcz32_2
            try clear hcz32_3
            try clear hcz39_0
            try clear hcz39_1
            try clear hcz39_2
            try clear hcz39_3
            try clear hcz40_0
            try clear hcz40_1
            try clear hcz40_2
            try clear hcz40_3
            try clear hcz41_0
            try clear hcz41_1
            try clear hcz41_2
            try clear hcz41_3
            try clear hcz42_0
            try clear hcz42_1
            try clear hcz42_2
            try clear hcz42_3
            try clear hcz6_0
            try clear hcz6_1
            try clear hcz6_2
            try clear hcz6_3
            try clear hcz7_0
            try clear hcz7_1
            try clear hcz7_2
            try clear hcz7_3
            try clear hcz9_0
            try clear hcz9_1
            try clear hcz9_2
            try clear hcz9_3
            try clear hfz16_0
            try clear hfz16_1
            try clear hfz16_2
            try clear hfz16_3
            try clear hfz22_0
            try clear hfz22_1
            try clear hfz22_2
            try clear hfz22_3
            try clear hfz23_0
            try clear hfz23_1
            try clear hfz23_2
            try clear hfz23_3
            try clear hfz24_0
            try clear hfz24_1
            try clear hfz24_2
            try clear hfz24_3
            try clear hfz29_0
            try clear hfz29_1
            try clear hfz29_2
            try clear hfz29_3
            try clear hfz30_0
            try clear hfz30_1
            try clear hfz30_2
            try clear hfz30_3
            try clear hfz31_0
            try clear hfz31_1
            try clear hfz31_2
            try clear hfz31_3
            try clear hfz32_0
            try clear hfz32_1
            try clear hfz32_2
            try clear hfz32_3
            try clear hfz39_0
            try clear hfz39_1
            try clear hfz39_2
            try clear hfz39_3
            try clear hfz40_0
            try clear hfz40_1
            try clear hfz40_2
            try clear hfz40_3
            try clear hfz41_0
            try clear hfz41_1
            try clear hfz41_2
            try clear hfz41_3
            try clear hfz42_0
            try clear hfz42_1
            try clear hfz42_2
            try clear hfz42_3
            try clear hfz6_0
            try clear hfz6_1
            try clear hfz6_2
            try clear hfz6_3
            try clear hfz7_0
            try clear hfz7_1
            try clear hfz7_2
            try clear hfz7_3
            try clear hfz9_0
            try clear hfz9_1
            try clear hfz9_2
            try clear hfz9_3
            try clear p2
            obtain ⟨kq,x93_42,rfl,HA,HJ42,BK103,HB⟩:=hcut
            cases kq with
            |zero=>exact absurd HA.out (by simp [Xh.j3])
            |succ kj42=>
             have H:=HA.out;clear HA;simp only [Xh.j3] at H;by_cases c45:x93_42=true
             ·subst c45
              have H1:(if a0_1 ≥ 0 then (if a0_1<2 then (if a0_2=0 then (some (a0_3 == 0)) else (some false)) else (some false)) else (some false))=some r:=by rw [if_pos rfl] at H;exact H
              clear H;have H:=H1;clear H1;by_cases c46:a0_1 ≥ 0
              ·rw [if_pos c46] at H;have c46b0:decide (0≤a0_1)=true:=decide_eq_true c46;clear c46;by_cases c47:a0_1<2
               ·rw [if_pos c47] at H;have c47b0:decide (a0_1<2)=true:=decide_eq_true c47;clear c47;by_cases c48:a0_2=0
                ·rw [if_pos c48] at H;have c48b0:(a0_2 == 0)=true:=beq_iff_eq.mpr c48;have c48b1:(a0_2 != 0)=false:=bne_eq_false_iff_eq.mpr c48;clear c48;obtain rfl:=Option.some.inj H;obtain ⟨hcz49_0,hcz49_1,hcz49_2,hcz49_3⟩:=Um BK103.out;obtain ⟨hfz49_0,hfz49_1,hfz49_2,hfz49_3⟩:=Un BK103.out;go_wp2
                 go_ret
                 exact ⟨rf_,bl_ HB⟩
                ·rw [if_neg c48] at H;have c48b0:(a0_2 == 0)=false:=beq_eq_false_iff_ne.mpr c48;have c48b1:(a0_2 != 0)=true:=bne_iff_ne.mpr c48;obtain rfl:=Option.some.inj H;obtain ⟨hcz50_0,hcz50_1,hcz50_2,hcz50_3⟩:=Um BK103.out;obtain ⟨hfz50_0,hfz50_1,hfz50_2,hfz50_3⟩:=Un BK103.out;go_wp2
                 go_ret
                 exact ⟨rf_,bl_ HB⟩
               ·rw [if_neg c47] at H;have c47b0:decide (a0_1<2)=false:=decide_eq_false c47;clear c47;obtain rfl:=Option.some.inj H;obtain ⟨hcz51_0,hcz51_1,hcz51_2,hcz51_3⟩:=Um BK103.out;obtain ⟨hfz51_0,hfz51_1,hfz51_2,hfz51_3⟩:=Un BK103.out;go_wp2
                go_ret
                exact ⟨rf_,bl_ HB⟩
              ·rw [if_neg c46] at H;have c46b0:decide (0≤a0_1)=false:=decide_eq_false c46;clear c46;obtain rfl:=Option.some.inj H;obtain ⟨hcz52_0,hcz52_1,hcz52_2,hcz52_3⟩:=Um BK103.out;obtain ⟨hfz52_0,hfz52_1,hfz52_2,hfz52_3⟩:=Un BK103.out;go_wp2
               go_ret
               exact ⟨rf_,bl_ HB⟩
             ·replace c45:=Bool.eq_false_iff.mpr c45;subst c45
              have H1:(if a0_0=12 then (if a0_1=0 then (if a0_2=0 then (some (a0_3 == 0)) else (some false)) else (some false)) else (if a0_0=13 then (if a0_1=0 then (if a0_2=0 then (some (a0_3 == 0)) else (some false)) else (some false)) else (some false)))=some r:=by rw [if_neg (show ¬ (false=true) by decide)] at H;exact H
              clear H;have H:=H1;clear H1;by_cases c53:a0_0=12
              ·rw [if_pos c53] at H;have c53b0:(a0_0 == 12)=true:=beq_iff_eq.mpr c53;have c53b1:(a0_0 != 12)=false:=bne_eq_false_iff_eq.mpr c53;clear c53;by_cases c54:a0_1=0
               ·rw [if_pos c54] at H;have c54b0:(a0_1 == 0)=true:=beq_iff_eq.mpr c54;have c54b1:(a0_1 != 0)=false:=bne_eq_false_iff_eq.mpr c54;clear c54;by_cases c55:a0_2=0
                ·rw [if_pos c55] at H;have c55b0:(a0_2 == 0)=true:=beq_iff_eq.mpr c55;have c55b1:(a0_2 != 0)=false:=bne_eq_false_iff_eq.mpr c55;clear c55;obtain rfl:=Option.some.inj H;obtain ⟨hcz56_0,hcz56_1,hcz56_2,hcz56_3⟩:=Um BK103.out;obtain ⟨hfz56_0,hfz56_1,hfz56_2,hfz56_3⟩:=Un BK103.out;go_wp2
                 go_ret
                 exact ⟨rf_,bl_ HB⟩
                ·rw [if_neg c55] at H;have c55b0:(a0_2 == 0)=false:=beq_eq_false_iff_ne.mpr c55;have c55b1:(a0_2 != 0)=true:=bne_iff_ne.mpr c55;obtain rfl:=Option.some.inj H;obtain ⟨hcz57_0,hcz57_1,hcz57_2,hcz57_3⟩:=Um BK103.out;obtain ⟨hfz57_0,hfz57_1,hfz57_2,hfz57_3⟩:=Un BK103.out;go_wp2
                 go_ret
                 exact ⟨rf_,bl_ HB⟩
               ·rw [if_neg c54] at H;have c54b0:(a0_1 == 0)=false:=beq_eq_false_iff_ne.mpr c54;have c54b1:(a0_1 != 0)=true:=bne_iff_ne.mpr c54;obtain rfl:=Option.some.inj H;obtain ⟨hcz58_0,hcz58_1,hcz58_2,hcz58_3⟩:=Um BK103.out;obtain ⟨hfz58_0,hfz58_1,hfz58_2,hfz58_3⟩:=Un BK103.out;go_wp2
                go_ret
                exact ⟨rf_,bl_ HB⟩
              ·rw [if_neg c53] at H;have c53b0:(a0_0 == 12)=false:=beq_eq_false_iff_ne.mpr c53;have c53b1:(a0_0 != 12)=true:=bne_iff_ne.mpr c53;by_cases c59:a0_0=13
               ·rw [if_pos c59] at H;have c59b0:(a0_0 == 13)=true:=beq_iff_eq.mpr c59;have c59b1:(a0_0 != 13)=false:=bne_eq_false_iff_eq.mpr c59;clear c59;by_cases c60:a0_1=0
                ·rw [if_pos c60] at H;have c60b0:(a0_1 == 0)=true:=beq_iff_eq.mpr c60;have c60b1:(a0_1 != 0)=false:=bne_eq_false_iff_eq.mpr c60;clear c60;by_cases c61:a0_2=0
                 ·rw [if_pos c61] at H;have c61b0:(a0_2 == 0)=true:=beq_iff_eq.mpr c61;have c61b1:(a0_2 != 0)=false:=bne_eq_false_iff_eq.mpr c61;clear c61;obtain rfl:=Option.some.inj H;obtain ⟨hcz62_0,hcz62_1,hcz62_2,hcz62_3⟩:=Um BK103.out;obtain ⟨hfz62_0,hfz62_1,hfz62_2,hfz62_3⟩:=Un BK103.out;go_wp2
                  go_ret
                  exact ⟨rf_,bl_ HB⟩
                 ·rw [if_neg c61] at H;have c61b0:(a0_2 == 0)=false:=beq_eq_false_iff_ne.mpr c61;have c61b1:(a0_2 != 0)=true:=bne_iff_ne.mpr c61;obtain rfl:=Option.some.inj H;obtain ⟨hcz63_0,hcz63_1,hcz63_2,hcz63_3⟩:=Um BK103.out;obtain ⟨hfz63_0,hfz63_1,hfz63_2,hfz63_3⟩:=Un BK103.out;go_wp2
                  go_ret
                  exact ⟨rf_,bl_ HB⟩
                ·rw [if_neg c60] at H;have c60b0:(a0_1 == 0)=false:=beq_eq_false_iff_ne.mpr c60;have c60b1:(a0_1 != 0)=true:=bne_iff_ne.mpr c60;obtain rfl:=Option.some.inj H;obtain ⟨hcz64_0,hcz64_1,hcz64_2,hcz64_3⟩:=Um BK103.out;obtain ⟨hfz64_0,hfz64_1,hfz64_2,hfz64_3⟩:=Un BK103.out;go_wp2
                 go_ret
                 exact ⟨rf_,bl_ HB⟩
               ·rw [if_neg c59] at H;have c59b0:(a0_0 == 13)=false:=beq_eq_false_iff_ne.mpr c59;have c59b1:(a0_0 != 13)=true:=bne_iff_ne.mpr c59;obtain rfl:=Option.some.inj H;go_wp2
                go_ret
                exact ⟨rf_,bl_ HB⟩
end Go.Proofs.YtdkcjecllbdljaaDoor.GCode
