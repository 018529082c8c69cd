import Derived.Test.YtdkcjecllbdljaaDoorCFnCodeLines22
import Derived.Test.YtdkcjecllbdljaaDoorCFnCodeLines24
namespace Go.Proofs.YtdkcjecllbdljaaDoor.GCode
open Go.RowKit Go.Proofs.YtdkcjecllbdljaaDoorW.PrintWords Go.Proofs.YtdkcjecllbdljaaDoorW.PrintLast Go.Proofs.YtdkcjecllbdljaaDoorW.PrintMore
attribute [local go_sem] Zy Ua Uo Uq Zp Zq Zz Ub
set_option linter.unusedVariables false
set_option linter.unusedSimpArgs false
mutual
def Yw.j0:Nat→Int→Int→Bool→Int→Int→Int→Int→List (S62)→List (S62)→Option (Bool)
 |0,_,_,_,_,_,_,_,_,_=>none
 |k+1,x1,x2,x19,x367000,x367001,x367002,x367003,x367004,x367005=>if x19=true then (some false) else (if x367000=6 then (Yw.j1 k x1 x2 x367000 (x367000 == 6) x367000 x367001 x367002 x367003 x367004 x367005) else (Yw.j1 k x1 x2 x367000 (x367000 == 7) x367000 x367001 x367002 x367003 x367004 x367005))
def Yw.j1:Nat→Int→Int→Int→Bool→Int→Int→Int→Int→List (S62)→List (S62)→Option (Bool)
 |0,_,_,_,_,_,_,_,_,_,_=>none
 |k+1,x1,x2,x21,x22,x367000,x367001,x367002,x367003,x367004,x367005=>if x22=true then (if x367001 ≥ 0 then (if x367001<3 then (if x367002=0 then (if x367003=0 then ((Yp.f k x367004 (wrap64 (x1 - 1)) x2).bind fun t367=>(if t367=true then ((Yp.f k x367005 (wrap64 (x1 - 1)) x2).bind fun t368=>(some t368)) else (some false))) else (some false)) else (some false)) else (some false)) else (some false)) else (if x21=8 then (if x2<0 then (if x367001 ≥ 0 then (if x367001<2 then (if x367002=0 then (if x367003=0 then ((Yp.f k x367004 (wrap64 (x1 - 1)) x367001).bind fun t369=>(some t369)) else (some false)) else (some false)) else (some false)) else (some false)) else (some false)) else (if (x367004.length:Int)=0 then ((Xr.f k x367000 x367001 x367002 x367003 x367004 x367005 x2).bind fun t370=>(some t370)) else (some false)))
def Yw.f:Nat→Int→Int→Int→Int→List (S62)→List (S62)→Int→Int→Option (Bool)
 |0,_,_,_,_,_,_,_,_=>none
 |k+1,a0_0,a0_1,a0_2,a0_3,l0_4,l0_5,a1,a2=>if a0_0=6 then (Yw.j0 k a1 a2 (decide (a1<1)) a0_0 a0_1 a0_2 a0_3 l0_4 l0_5) else (if (l0_5.length:Int) > 0 then (Yw.j0 k a1 a2 true a0_0 a0_1 a0_2 a0_3 l0_4 l0_5) else (Yw.j0 k a1 a2 (decide (a1<1)) a0_0 a0_1 a0_2 a0_3 l0_4 l0_5))
def Yp.l0:Nat→List (S62)→Int→Int→Int→Option (Bool)
 |0,_,_,_,_=>none
 |k+1,x0,x1,x2,x7=>if x7<(x0.length:Int) then (if 0≤x7 then ((Yw.f k ((Yv x0 x7).f0) ((Yv x0 x7).f1) ((Yv x0 x7).f2) ((Yv x0 x7).f3) ((Yv x0 x7).f4) ((Yv x0 x7).f5) x1 x2).bind fun t372=>(if t372=true then (Yp.l0 k x0 x1 x2 (wrap64 (x7+1))) else (some false))) else (none)) else (some true)
def Yp.f:Nat→List (S62)→Int→Int→Option (Bool)
 |0,_,_,_=>none
 |k+1,l0,a1,a2=>Yp.l0 k l0 a1 a2 0
end
set_option maxHeartbeats 8000000 in
set_option maxRecDepth 100000 in
theorem Yw.step (k:Nat) (ih:∀ m_,m_<k→∀ (a0_0:Int) (a0_1:Int) (a0_2:Int) (a0_3:Int) (A0_4:Option Addr) (c0_4:Nat) (l0_4:List (S62)) (A0_5:Option Addr) (c0_5:Nat) (l0_5:List (S62)) (a1:Int) (a2:Int) (r:Bool) (w:World) (hr0_4:Kd.C k62 w A0_4 l0_4.length l0_4) (hc0_4:l0_4.length≤c0_4) (hr0_5:Kd.C k62 w A0_5 l0_5.length l0_5) (hc0_5:l0_5.length≤c0_5) (h:Yw.f m_ a0_0 a0_1 a0_2 a0_3 l0_4 l0_5 a1 a2=some r),
  Calls Tryd.prog 66 #[.agg #[.int .i64 a0_0,.int .i64 a0_1,.int .i64 a0_2,.int .i64 a0_3,.slice A0_4 l0_4.length c0_4,.slice A0_5 l0_5.length c0_5],.int .i64 a1,.int .i64 a2] w fun e w'=>e=.returned (.bool r)∧Below w.heap.size w w') (ih_spec_l2List:∀ m_,m_<k→∀ (A0:Option Addr) (c0:Nat) (l0:List (S62)) (a1:Int) (a2:Int) (r:Bool) (w:World) (hr0:Kd.C k62 w A0 l0.length l0) (hc0:l0.length≤c0) (h:Yp.f m_ l0 a1 a2=some r),
  Calls Tryd.prog 54 #[.slice A0 l0.length c0,.int .i64 a1,.int .i64 a2] w fun e w'=>e=.returned (.bool r)∧Below w.heap.size w w'):∀ (a0_0:Int) (a0_1:Int) (a0_2:Int) (a0_3:Int) (A0_4:Option Addr) (c0_4:Nat) (l0_4:List (S62)) (A0_5:Option Addr) (c0_5:Nat) (l0_5:List (S62)) (a1:Int) (a2:Int) (r:Bool) (w:World) (hr0_4:Kd.C k62 w A0_4 l0_4.length l0_4) (hc0_4:l0_4.length≤c0_4) (hr0_5:Kd.C k62 w A0_5 l0_5.length l0_5) (hc0_5:l0_5.length≤c0_5) (h:Yw.f k a0_0 a0_1 a0_2 a0_3 l0_4 l0_5 a1 a2=some r),
  Calls Tryd.prog 66 #[.agg #[.int .i64 a0_0,.int .i64 a0_1,.int .i64 a0_2,.int .i64 a0_3,.slice A0_4 l0_4.length c0_4,.slice A0_5 l0_5.length c0_5],.int .i64 a1,.int .i64 a2] w fun e w'=>e=.returned (.bool r)∧Below w.heap.size w w':=by
 intro a0_0 a0_1 a0_2 a0_3 A0_4 c0_4 l0_4 A0_5 c0_5 l0_5 a1 a2 r w hr0_4 hc0_4 hr0_5 hc0_5 h
 cases k with
 |zero=>exact absurd h (by simp [Yw.f])
 |succ k=>
 simp only [Yw.f] at h;have hu62:=Tryd.underlying62;have HR0_4:=Xa.mk hr0_4;have HC0_4:=Xa.mk hc0_4;clear hr0_4 hc0_4;have HR0_5:=Xa.mk hr0_5;have HC0_5:=Xa.mk hc0_5;clear hr0_5 hc0_5;have HB:=Xa.mk (Below.refl w.heap.size w);have H:(if a0_0=6 then (Yw.j0 k a1 a2 (decide (a1<1)) a0_0 a0_1 a0_2 a0_3 l0_4 l0_5) else (if (l0_5.length:Int) > 0 then (Yw.j0 k a1 a2 true a0_0 a0_1 a0_2 a0_3 l0_4 l0_5) else (Yw.j0 k a1 a2 (decide (a1<1)) a0_0 a0_1 a0_2 a0_3 l0_4 l0_5)))=some r:=h;clear h;have HC4:=Xa.mk H;clear H
 go_enter Tryd.func66,Tryd.ntmps66
 go_upto_region 1 with (first|((with_reducible refine Xq (N:=3) rfl ?_);(try (refine gate_guard (by rfl) ?_;dsimp only));refine Yq ?hg (N:=3) ?hd (cs:=#[.int .i64 a0_0,.int .i64 a0_1,.int .i64 a0_2,.int .i64 a0_3,.slice A0_4 l0_4.length c0_4,.slice A0_5 l0_5.length c0_5]) (t:=62) ?hr ?_;(case hd=>rfl);(case hg=>rfl);(case hr=>first|(go_simp;done)|(go_simp;rfl));intro gb366 hg w5 hbox hb;have n0_:=Xa.mk (Xc (bl_ HB) hb);have n1_:=Xa.mk (hbox);have n2_:=Xa.mk ((by rw [hg];exact (Xd (bl_ HB)):w.heap.size≤gb366));have n3_:=Xa.mk ((by rw [hg];exact (Xd (bl_ HB)):w.heap.size≤gb366));clear HB;have HB:=n0_;have BK366:=n1_;have GW366:=n2_;have GE366:=n3_;clear n0_ n1_ n2_ n3_;clear hb hbox hg))
 (try simp only [Act.put,List.setIfInBounds_toArray,List.set_cons_zero,List.set_cons_succ])
 go_cut [19] (fun v19 wc=>∃ (kq:Nat) (x19_3:Bool),v19=.bool x19_3∧Xa (Yw.j0 kq a1 a2 x19_3 a0_0 a0_1 a0_2 a0_3 l0_4 l0_5=some r)∧Xa (kq≤k)∧Xa (wc.heap[gb366]?=some (.cells #[.int .i64 a0_0,.int .i64 a0_1,.int .i64 a0_2,.int .i64 a0_3,(.slice A0_4 l0_4.length c0_4),(.slice A0_5 l0_5.length c0_5)] 62 (0,0)))∧Xa (Below w.heap.size w wc))
 case first=>
  have H:=HC4.out;clear HC4;by_cases c6:a0_0=6
  ·rw [if_pos c6] at H;have c6b0:(a0_0 == 6)=true:=beq_iff_eq.mpr c6;have c6b1:(a0_0 != 6)=false:=bne_eq_false_iff_eq.mpr c6;clear c6
   (first|rw [c6b0]|(simp only [Xt,Xu];rw [c6b0])|skip)
   have H':=Xa.mk H;clear H;obtain ⟨hcz7_0,hcz7_1,hcz7_2,hcz7_3,hcz7_4,hcz7_5⟩:=Uk BK366.out;obtain ⟨hfz7_0,hfz7_1,hfz7_2,hfz7_3,hfz7_4,hfz7_5⟩:=Ul BK366.out;go_wp2
   go_meet
   case rel=>exact ⟨_,(decide (a1<1)),(by first|rfl|(simp;done)|(simp [*];done)),H',⟨by first|omega|exact Nat.le_refl _⟩,⟨ba_ BK366⟩,⟨bl_ HB⟩⟩
  ·rw [if_neg c6] at H;have c6b0:(a0_0 == 6)=false:=beq_eq_false_iff_ne.mpr c6;have c6b1:(a0_0 != 6)=true:=bne_iff_ne.mpr c6
   (first|rw [c6b0]|(simp only [Xt,Xu];rw [c6b0])|skip)
   by_cases c8:(l0_5.length:Int) > 0
   ·rw [if_pos c8] at H;have c8b0:decide (0<(l0_5.length:Int))=true:=decide_eq_true c8;have c8b1:decide (0<l0_5.length)=true:=decide_eq_true (by omega);clear c8;have H':=Xa.mk H;clear H;obtain ⟨hcz9_0,hcz9_1,hcz9_2,hcz9_3,hcz9_4,hcz9_5⟩:=Uk BK366.out;obtain ⟨hfz9_0,hfz9_1,hfz9_2,hfz9_3,hfz9_4,hfz9_5⟩:=Ul BK366.out;go_wp2
    go_meet
    case rel=>exact ⟨_,(true),(by first|rfl|(simp;done)|(simp [*];done)),H',⟨by first|omega|exact Nat.le_refl _⟩,⟨ba_ BK366⟩,⟨bl_ HB⟩⟩
   ·rw [if_neg c8] at H;have c8b0:decide (0<(l0_5.length:Int))=false:=decide_eq_false c8;have c8b1:decide (0<l0_5.length)=false:=decide_eq_false (by omega);clear c8;have H':=Xa.mk H;clear H;obtain ⟨hcz10_0,hcz10_1,hcz10_2,hcz10_3,hcz10_4,hcz10_5⟩:=Uk BK366.out;obtain ⟨hfz10_0,hfz10_1,hfz10_2,hfz10_3,hfz10_4,hfz10_5⟩:=Ul BK366.out;go_wp2
    go_meet
    case rel=>exact ⟨_,(decide (a1<1)),(by first|rfl|(simp;done)|(simp [*];done)),H',⟨by first|omega|exact Nat.le_refl _⟩,⟨ba_ BK366⟩,⟨bl_ HB⟩⟩
 case rest=>
  clear HC4
  try clear p2
  try clear c6
  try clear c6b0
  try clear c6b1
  try clear c8
  try clear c8b0
  try clear c8b1
  try clear hcz10_0
  try clear hcz10_1
  try clear hcz10_2
  try clear hcz10_3
  try clear hcz10_4
  try clear hcz10_5
  try clear hcz7_0
  try clear hcz7_1
  try clear hcz7_2
  try clear hcz7_3
  try clear hcz7_4
  try clear hcz7_5
  try clear hcz9_0
  try clear hcz9_1
  try clear hcz9_2
  try clear hcz9_3
  try clear hcz9_4
  try clear hcz9_5
  try clear hfz10_0
  try clear hfz10_1
  try clear hfz10_2
  try clear hfz10_3
  try clear hfz10_4
  try clear hfz10_5
  try clear hfz7_0
  try clear hfz7_1
  try clear hfz7_2
  try clear hfz7_3
  try clear hfz7_4
  try clear hfz7_5
  try clear hfz9_0
  try clear hfz9_1
  try clear hfz9_2
  try clear hfz9_3
  try clear hfz9_4
  try clear hfz9_5
  obtain ⟨kq,x19_3,rfl,HA,HJ3,BK366,HB⟩:=hcut
  cases kq with
  |zero=>exact absurd HA.out (by simp [Yw.j0])
  |succ kj3=>
   have H:=HA.out;clear HA;simp only [Yw.j0] at H;by_cases c11:x19_3=true
   ·subst c11
    have H1:(some false)=some r:=by rw [if_pos rfl] at H;exact H
    clear H;have H:=H1;clear H1;obtain rfl:=Option.some.inj H;go_wp2
    go_ret
    exact ⟨rf_,bl_ HB⟩
   ·replace c11:=Bool.eq_false_iff.mpr c11;subst c11
    have H1:(if a0_0=6 then (Yw.j1 kj3 a1 a2 a0_0 (a0_0 == 6) a0_0 a0_1 a0_2 a0_3 l0_4 l0_5) else (Yw.j1 kj3 a1 a2 a0_0 (a0_0 == 7) a0_0 a0_1 a0_2 a0_3 l0_4 l0_5))=some r:=by rw [if_neg (show ¬ (false=true) by decide)] at H;exact H
    clear H;have H:=H1;clear H1;have HC12:=Xa.mk H;clear H;obtain ⟨hcz13_0,hcz13_1,hcz13_2,hcz13_3,hcz13_4,hcz13_5⟩:=Uk BK366.out;obtain ⟨hfz13_0,hfz13_1,hfz13_2,hfz13_3,hfz13_4,hfz13_5⟩:=Ul BK366.out
    go_upto_if 22 with (fail)
    go_cut [22] (fun v22 wc=>∃ (kq:Nat) (x22_11:Bool),v22=.bool x22_11∧Xa (Yw.j1 kq a1 a2 a0_0 x22_11 a0_0 a0_1 a0_2 a0_3 l0_4 l0_5=some r)∧Xa (kq≤kj3)∧Xa (wc.heap[gb366]?=some (.cells #[.int .i64 a0_0,.int .i64 a0_1,.int .i64 a0_2,.int .i64 a0_3,(.slice A0_4 l0_4.length c0_4),(.slice A0_5 l0_5.length c0_5)] 62 (0,0)))∧Xa (Below w.heap.size w wc))
    case first=>
     have H:=HC12.out;clear HC12;by_cases c14:a0_0=6
     ·rw [if_pos c14] at H;have c14b0:(a0_0 == 6)=true:=beq_iff_eq.mpr c14;have c14b1:(a0_0 != 6)=false:=bne_eq_false_iff_eq.mpr c14;clear c14
      (first|rw [c14b0]|(simp only [Xt,Xu];rw [c14b0])|skip)
      have H':=Xa.mk H;clear H;go_wp2
      go_meet
      case rel=>exact ⟨_,((a0_0 == 6)),(by first|rfl|(simp;done)|(simp [*];done)),H',⟨by have:=HJ3.out;first|omega|exact Nat.le_refl _⟩,⟨ba_ BK366⟩,⟨bl_ HB⟩⟩
     ·rw [if_neg c14] at H;have c14b0:(a0_0 == 6)=false:=beq_eq_false_iff_ne.mpr c14;have c14b1:(a0_0 != 6)=true:=bne_iff_ne.mpr c14
      (first|rw [c14b0]|(simp only [Xt,Xu];rw [c14b0])|skip)
      have H':=Xa.mk H;clear H;go_wp2
      go_meet
      case rel=>exact ⟨_,((a0_0 == 7)),(by first|rfl|(simp;done)|(simp [*];done)),H',⟨by have:=HJ3.out;first|omega|exact Nat.le_refl _⟩,⟨ba_ BK366⟩,⟨bl_ HB⟩⟩
    case rest=>
     clear HC12
     try clear c1
     try clear p2
     try clear c6
     try clear c6b0
     try clear c6b1
     try clear c8
     try clear c8b0
     try clear c8b1
     try clear c11
     try clear c14
     try clear c14b0
     try clear c14b1
     try clear hcz10_0
     try clear hcz10_1
     try clear hcz10_2
     try clear hcz10_3
     try clear hcz10_4
     try clear hcz10_5
     try clear hcz13_0
     try clear hcz13_1
     try clear hcz13_2
     try clear hcz13_3
     try clear hcz13_4
     try clear hcz13_5
     try clear hcz7_0
     try clear hcz7_1
     try clear hcz7_2
     try clear hcz7_3
     try clear hcz7_4
     try clear hcz7_5
     try clear hcz9_0
     try clear hcz9_1
     try clear hcz9_2
     try clear hcz9_3
     try clear hcz9_4
     try clear hcz9_5
     try clear hfz10_0
     try clear hfz10_1
     try clear hfz10_2
     try clear hfz10_3
     try clear hfz10_4
     try clear hfz10_5
     try clear hfz13_0
     try clear hfz13_1
     try clear hfz13_2
     try clear hfz13_3
     try clear hfz13_4
     try clear hfz13_5
     try clear hfz7_0
     try clear hfz7_1
     try clear hfz7_2
     try clear hfz7_3
     try clear hfz7_4
     try clear hfz7_5
     try clear hfz9_0
     try clear hfz9_1
     try clear hfz9_2
     try clear hfz9_3
     try clear hfz9_4
     try clear hfz9_5
     try clear p2
     obtain ⟨kq,x22_11,rfl,HA,HJ11,BK366,HB⟩:=hcut
     cases kq with
     |zero=>exact absurd HA.out (by simp [Yw.j1])
     |succ kj11=>
      have H:=HA.out;clear HA;simp only [Yw.j1] at H;by_cases c15:x22_11=true
      ·subst c15
       have H1:(if a0_1 ≥ 0 then (if a0_1<3 then (if a0_2=0 then (if a0_3=0 then ((Yp.f kj11 l0_4 (wrap64 (a1 - 1)) a2).bind fun t367=>(if t367=true then ((Yp.f kj11 l0_5 (wrap64 (a1 - 1)) a2).bind fun t368=>(some t368)) else (some false))) else (some false)) else (some false)) else (some false)) else (some false))=some r:=by rw [if_pos rfl] at H;exact H
       clear H;have H:=H1;clear H1;by_cases c16:a0_1 ≥ 0
       ·rw [if_pos c16] at H;have c16b0:decide (0≤a0_1)=true:=decide_eq_true c16;clear c16;by_cases c17:a0_1<3
        ·rw [if_pos c17] at H;have c17b0:decide (a0_1<3)=true:=decide_eq_true c17;clear c17;by_cases c18:a0_2=0
         ·rw [if_pos c18] at H;have c18b0:(a0_2 == 0)=true:=beq_iff_eq.mpr c18;have c18b1:(a0_2 != 0)=false:=bne_eq_false_iff_eq.mpr c18;clear c18;by_cases c19:a0_3=0
          ·rw [if_pos c19] at H;have c19b0:(a0_3 == 0)=true:=beq_iff_eq.mpr c19;have c19b1:(a0_3 != 0)=false:=bne_eq_false_iff_eq.mpr c19;clear c19;replace H:=Option.bind_eq_some_iff.mp H;obtain ⟨t367,A200,H⟩:=H;replace H:(if t367=true then ((Yp.f kj11 l0_5 (wrap64 (a1 - 1)) a2).bind fun t368=>(some t368)) else (some false))=some r:=H;have A20:=Xa.mk A200;clear A200;by_cases c21:t367=true
           ·subst c21
            have H1:((Yp.f kj11 l0_5 (wrap64 (a1 - 1)) a2).bind fun t368=>(some t368))=some r:=by rw [if_pos rfl] at H;exact H
            clear H;have H:=H1;clear H1;replace H:=Option.bind_eq_some_iff.mp H;obtain ⟨t368,A220,H⟩:=H;replace H:(some t368)=some r:=H;have A22:=Xa.mk A220;clear A220;obtain rfl:=Option.some.inj H;obtain ⟨hcz23_0,hcz23_1,hcz23_2,hcz23_3,hcz23_4,hcz23_5⟩:=Uk BK366.out;obtain ⟨hfz23_0,hfz23_1,hfz23_2,hfz23_3,hfz23_4,hfz23_5⟩:=Ul BK366.out;go_wp2_with (first|(go_at_call 54;(with_reducible refine (ih_spec_l2List kj11 (by have:=HJ3.out;have:=HJ11.out;omega) _ _ l0_4 (wrap64 (a1 - 1)) a2 true _ ?side1 ?side2 A20.out).mono ?_);(case side1=>repeat (first|exact (Kd.Zl HR0_4.out HB.out)|(with_reducible refine Kd.Yc ?_ _)|(with_reducible refine Kd.Yd ?_ _)|(with_reducible refine Kd.Yo ?_)));(case side2=>exact HC0_4.out);rintro e w24 ⟨rfl,hb⟩;have n0_:=Xa.mk (Ym (g:=gb366) (o:=.cells #[.int .i64 a0_0,.int .i64 a0_1,.int .i64 a0_2,.int .i64 a0_3,.slice A0_4 l0_4.length c0_4,.slice A0_5 l0_5.length c0_5] 62 (0,0)) (ba_ BK366) hb);have n1_:=Xa.mk (Xc (bl_ HB) hb);clear BK366;clear HB;have BK366:=n0_;have HB:=n1_;clear n0_ n1_;(try clear hb);(try clear hb2);(try clear hk);(try clear hi);obtain ⟨hcz25_0,hcz25_1,hcz25_2,hcz25_3,hcz25_4,hcz25_5⟩:=Uk BK366.out;obtain ⟨hfz25_0,hfz25_1,hfz25_2,hfz25_3,hfz25_4,hfz25_5⟩:=Ul BK366.out)|(go_at_call 54;(with_reducible refine (ih_spec_l2List kj11 (by have:=HJ3.out;have:=HJ11.out;omega) _ _ l0_5 (wrap64 (a1 - 1)) a2 t368 _ ?side1 ?side2 A22.out).mono ?_);(case side1=>repeat (first|exact (Kd.Zl HR0_5.out HB.out)|(with_reducible refine Kd.Yc ?_ _)|(with_reducible refine Kd.Yd ?_ _)|(with_reducible refine Kd.Yo ?_)));(case side2=>exact HC0_5.out);rintro e w26 ⟨rfl,hb⟩;have n0_:=Xa.mk (Ym (g:=gb366) (o:=.cells #[.int .i64 a0_0,.int .i64 a0_1,.int .i64 a0_2,.int .i64 a0_3,.slice A0_4 l0_4.length c0_4,.slice A0_5 l0_5.length c0_5] 62 (0,0)) (ba_ BK366) hb);have n1_:=Xa.mk (Xc (bl_ HB) hb);clear BK366;clear HB;have BK366:=n0_;have HB:=n1_;clear n0_ n1_;(try clear hb);(try clear hb2);(try clear hk);(try clear hi)))
            go_ret
            exact ⟨rf_,bl_ HB⟩
           ·replace c21:=Bool.eq_false_iff.mpr c21;subst c21
            have H1:(some false)=some r:=by rw [if_neg (show ¬ (false=true) by decide)] at H;exact H
            clear H;have H:=H1;clear H1;obtain rfl:=Option.some.inj H;obtain ⟨hcz27_0,hcz27_1,hcz27_2,hcz27_3,hcz27_4,hcz27_5⟩:=Uk BK366.out;obtain ⟨hfz27_0,hfz27_1,hfz27_2,hfz27_3,hfz27_4,hfz27_5⟩:=Ul BK366.out;go_wp2_with (first|(go_at_call 54;(with_reducible refine (ih_spec_l2List kj11 (by have:=HJ3.out;have:=HJ11.out;omega) _ _ l0_4 (wrap64 (a1 - 1)) a2 false _ ?side1 ?side2 A20.out).mono ?_);(case side1=>repeat (first|exact (Kd.Zl HR0_4.out HB.out)|(with_reducible refine Kd.Yc ?_ _)|(with_reducible refine Kd.Yd ?_ _)|(with_reducible refine Kd.Yo ?_)));(case side2=>exact HC0_4.out);rintro e w28 ⟨rfl,hb⟩;have n0_:=Xa.mk (Ym (g:=gb366) (o:=.cells #[.int .i64 a0_0,.int .i64 a0_1,.int .i64 a0_2,.int .i64 a0_3,.slice A0_4 l0_4.length c0_4,.slice A0_5 l0_5.length c0_5] 62 (0,0)) (ba_ BK366) hb);have n1_:=Xa.mk (Xc (bl_ HB) hb);clear BK366;clear HB;have BK366:=n0_;have HB:=n1_;clear n0_ n1_;(try clear hb);(try clear hb2);(try clear hk);(try clear hi)))
            go_ret
            exact ⟨rf_,bl_ HB⟩
          ·rw [if_neg c19] at H;have c19b0:(a0_3 == 0)=false:=beq_eq_false_iff_ne.mpr c19;have c19b1:(a0_3 != 0)=true:=bne_iff_ne.mpr c19;obtain rfl:=Option.some.inj H;obtain ⟨hcz29_0,hcz29_1,hcz29_2,hcz29_3,hcz29_4,hcz29_5⟩:=Uk BK366.out;obtain ⟨hfz29_0,hfz29_1,hfz29_2,hfz29_3,hfz29_4,hfz29_5⟩:=Ul BK366.out;go_wp2
           go_ret
           exact ⟨rf_,bl_ HB⟩
         ·rw [if_neg c18] at H;have c18b0:(a0_2 == 0)=false:=beq_eq_false_iff_ne.mpr c18;have c18b1:(a0_2 != 0)=true:=bne_iff_ne.mpr c18;obtain rfl:=Option.some.inj H;obtain ⟨hcz30_0,hcz30_1,hcz30_2,hcz30_3,hcz30_4,hcz30_5⟩:=Uk BK366.out;obtain ⟨hfz30_0,hfz30_1,hfz30_2,hfz30_3,hfz30_4,hfz30_5⟩:=Ul BK366.out;go_wp2
          go_ret
          exact ⟨rf_,bl_ HB⟩
        ·rw [if_neg c17] at H;have c17b0:decide (a0_1<3)=false:=decide_eq_false c17;clear c17;obtain rfl:=Option.some.inj H;obtain ⟨hcz31_0,hcz31_1,hcz31_2,hcz31_3,hcz31_4,hcz31_5⟩:=Uk BK366.out;obtain ⟨hfz31_0,hfz31_1,hfz31_2,hfz31_3,hfz31_4,hfz31_5⟩:=Ul BK366.out;go_wp2
         go_ret
         exact ⟨rf_,bl_ HB⟩
       ·rw [if_neg c16] at H;have c16b0:decide (0≤a0_1)=false:=decide_eq_false c16;clear c16;obtain rfl:=Option.some.inj H;obtain ⟨hcz32_0,hcz32_1,hcz32_2,hcz32_3,hcz32_4,hcz32_5⟩:=Uk BK366.out;obtain ⟨hfz32_0,hfz32_1,hfz32_2,hfz32_3,hfz32_4,hfz32_5⟩:=Ul BK366.out;go_wp2
        go_ret
        exact ⟨rf_,bl_ HB⟩
      ·replace c15:=Bool.eq_false_iff.mpr c15;subst c15
       have H1:(if a0_0=8 then (if a2<0 then (if a0_1 ≥ 0 then (if a0_1<2 then (if a0_2=0 then (if a0_3=0 then ((Yp.f kj11 l0_4 (wrap64 (a1 - 1)) a0_1).bind fun t369=>(some t369)) else (some false)) else (some false)) else (some false)) else (some false)) else (some false)) else (if (l0_4.length:Int)=0 then ((Xr.f kj11 a0_0 a0_1 a0_2 a0_3 l0_4 l0_5 a2).bind fun t370=>(some t370)) else (some false)))=some r:=by rw [if_neg (show ¬ (false=true) by decide)] at H;exact H
       clear H;have H:=H1;clear H1;by_cases c33:a0_0=8
       ·rw [if_pos c33] at H;have c33b0:(a0_0 == 8)=true:=beq_iff_eq.mpr c33;have c33b1:(a0_0 != 8)=false:=bne_eq_false_iff_eq.mpr c33;clear c33;by_cases c34:a2<0
        ·rw [if_pos c34] at H;have c34b0:decide (a2<0)=true:=decide_eq_true c34;clear c34;by_cases c35:a0_1 ≥ 0
         ·rw [if_pos c35] at H;have c35b0:decide (0≤a0_1)=true:=decide_eq_true c35;clear c35;by_cases c36:a0_1<2
          ·rw [if_pos c36] at H;have c36b0:decide (a0_1<2)=true:=decide_eq_true c36;clear c36;by_cases c37:a0_2=0
           ·rw [if_pos c37] at H;have c37b0:(a0_2 == 0)=true:=beq_iff_eq.mpr c37;have c37b1:(a0_2 != 0)=false:=bne_eq_false_iff_eq.mpr c37;clear c37;by_cases c38:a0_3=0
            ·rw [if_pos c38] at H;have c38b0:(a0_3 == 0)=true:=beq_iff_eq.mpr c38;have c38b1:(a0_3 != 0)=false:=bne_eq_false_iff_eq.mpr c38;clear c38;replace H:=Option.bind_eq_some_iff.mp H;obtain ⟨t369,A390,H⟩:=H;replace H:(some t369)=some r:=H;have A39:=Xa.mk A390;clear A390;obtain rfl:=Option.some.inj H;obtain ⟨hcz40_0,hcz40_1,hcz40_2,hcz40_3,hcz40_4,hcz40_5⟩:=Uk BK366.out;obtain ⟨hfz40_0,hfz40_1,hfz40_2,hfz40_3,hfz40_4,hfz40_5⟩:=Ul BK366.out;go_wp2_with (first|(go_at_call 54;(with_reducible refine (ih_spec_l2List kj11 (by have:=HJ3.out;have:=HJ11.out;omega) _ _ l0_4 (wrap64 (a1 - 1)) a0_1 t369 _ ?side1 ?side2 A39.out).mono ?_);(case side1=>repeat (first|exact (Kd.Zl HR0_4.out HB.out)|(with_reducible refine Kd.Yc ?_ _)|(with_reducible refine Kd.Yd ?_ _)|(with_reducible refine Kd.Yo ?_)));(case side2=>exact HC0_4.out);rintro e w41 ⟨rfl,hb⟩;have n0_:=Xa.mk (Ym (g:=gb366) (o:=.cells #[.int .i64 a0_0,.int .i64 a0_1,.int .i64 a0_2,.int .i64 a0_3,.slice A0_4 l0_4.length c0_4,.slice A0_5 l0_5.length c0_5] 62 (0,0)) (ba_ BK366) hb);have n1_:=Xa.mk (Xc (bl_ HB) hb);clear BK366;clear HB;have BK366:=n0_;have HB:=n1_;clear n0_ n1_;(try clear hb);(try clear hb2);(try clear hk);(try clear hi)))
             go_ret
             exact ⟨rf_,bl_ HB⟩
            ·rw [if_neg c38] at H;have c38b0:(a0_3 == 0)=false:=beq_eq_false_iff_ne.mpr c38;have c38b1:(a0_3 != 0)=true:=bne_iff_ne.mpr c38;obtain rfl:=Option.some.inj H;obtain ⟨hcz42_0,hcz42_1,hcz42_2,hcz42_3,hcz42_4,hcz42_5⟩:=Uk BK366.out;obtain ⟨hfz42_0,hfz42_1,hfz42_2,hfz42_3,hfz42_4,hfz42_5⟩:=Ul BK366.out;go_wp2
             go_ret
             exact ⟨rf_,bl_ HB⟩
           ·rw [if_neg c37] at H;have c37b0:(a0_2 == 0)=false:=beq_eq_false_iff_ne.mpr c37;have c37b1:(a0_2 != 0)=true:=bne_iff_ne.mpr c37;obtain rfl:=Option.some.inj H;obtain ⟨hcz43_0,hcz43_1,hcz43_2,hcz43_3,hcz43_4,hcz43_5⟩:=Uk BK366.out;obtain ⟨hfz43_0,hfz43_1,hfz43_2,hfz43_3,hfz43_4,hfz43_5⟩:=Ul BK366.out;go_wp2
            go_ret
            exact ⟨rf_,bl_ HB⟩
          ·rw [if_neg c36] at H;have c36b0:decide (a0_1<2)=false:=decide_eq_false c36;clear c36;obtain rfl:=Option.some.inj H;obtain ⟨hcz44_0,hcz44_1,hcz44_2,hcz44_3,hcz44_4,hcz44_5⟩:=Uk BK366.out;obtain ⟨hfz44_0,hfz44_1,hfz44_2,hfz44_3,hfz44_4,hfz44_5⟩:=Ul BK366.out;go_wp2
           go_ret
           exact ⟨rf_,bl_ HB⟩
         ·rw [if_neg c35] at H;have c35b0:decide (0≤a0_1)=false:=decide_eq_false c35;clear c35;obtain rfl:=Option.some.inj H;obtain ⟨hcz45_0,hcz45_1,hcz45_2,hcz45_3,hcz45_4,hcz45_5⟩:=Uk BK366.out;obtain ⟨hfz45_0,hfz45_1,hfz45_2,hfz45_3,hfz45_4,hfz45_5⟩:=Ul BK366.out;go_wp2
          go_ret
          exact ⟨rf_,bl_ HB⟩
        ·rw [if_neg c34] at H;have c34b0:decide (a2<0)=false:=decide_eq_false c34;clear c34;obtain rfl:=Option.some.inj H;go_wp2
         go_ret
         exact ⟨rf_,bl_ HB⟩
       ·rw [if_neg c33] at H;have c33b0:(a0_0 == 8)=false:=beq_eq_false_iff_ne.mpr c33;have c33b1:(a0_0 != 8)=true:=bne_iff_ne.mpr c33;by_cases c46:(l0_4.length:Int)=0
        ·rw [if_pos c46] at H;have c46b0:((l0_4.length:Int) == 0)=true:=beq_iff_eq.mpr c46;have c46b1:((l0_4.length:Int) != 0)=false:=bne_eq_false_iff_eq.mpr c46;clear c46;replace H:=Option.bind_eq_some_iff.mp H;obtain ⟨t370,A470,H⟩:=H;replace H:(some t370)=some r:=H;have A47:=Xa.mk A470;clear A470;obtain rfl:=Option.some.inj H;obtain ⟨hcz48_0,hcz48_1,hcz48_2,hcz48_3,hcz48_4,hcz48_5⟩:=Uk BK366.out;obtain ⟨hfz48_0,hfz48_1,hfz48_2,hfz48_3,hfz48_4,hfz48_5⟩:=Ul BK366.out;go_wp2_with (first|(go_at_call 31;(with_reducible refine (Xr.calls kj11 a0_0 a0_1 a0_2 a0_3 _ _ l0_4 _ _ l0_5 a2 t370 _ ?side1 ?side2 ?side3 ?side4 A47.out).mono ?_);(case side1=>repeat (first|exact (Kd.Zl HR0_4.out HB.out)|(with_reducible refine Kd.Yc ?_ _)|(with_reducible refine Kd.Yd ?_ _)|(with_reducible refine Kd.Yo ?_)));(case side2=>exact HC0_4.out);(case side3=>repeat (first|exact (Kd.Zl HR0_5.out HB.out)|(with_reducible refine Kd.Yc ?_ _)|(with_reducible refine Kd.Yd ?_ _)|(with_reducible refine Kd.Yo ?_)));(case side4=>exact HC0_5.out);rintro e w49 ⟨rfl,hb⟩;have n0_:=Xa.mk (Ym (g:=gb366) (o:=.cells #[.int .i64 a0_0,.int .i64 a0_1,.int .i64 a0_2,.int .i64 a0_3,.slice A0_4 l0_4.length c0_4,.slice A0_5 l0_5.length c0_5] 62 (0,0)) (ba_ BK366) hb);have n1_:=Xa.mk (Xc (bl_ HB) hb);clear BK366;clear HB;have BK366:=n0_;have HB:=n1_;clear n0_ n1_;(try clear hb);(try clear hb2);(try clear hk);(try clear hi)))
         go_ret
         exact ⟨rf_,bl_ HB⟩
        ·rw [if_neg c46] at H;have c46b0:((l0_4.length:Int) == 0)=false:=beq_eq_false_iff_ne.mpr c46;have c46b1:((l0_4.length:Int) != 0)=true:=bne_iff_ne.mpr c46;have c46b2:¬ (l0_4=[]):=fun h_=>c46 (by rw [h_];rfl);obtain rfl:=Option.some.inj H;obtain ⟨hcz50_0,hcz50_1,hcz50_2,hcz50_3,hcz50_4,hcz50_5⟩:=Uk BK366.out;obtain ⟨hfz50_0,hfz50_1,hfz50_2,hfz50_3,hfz50_4,hfz50_5⟩:=Ul BK366.out;go_wp2
         go_ret
         exact ⟨rf_,bl_ HB⟩
set_option maxHeartbeats 8000000 in
set_option maxRecDepth 100000 in
theorem Yp.step (k:Nat) (ih_spec_l2Stmt:∀ m_,m_<k→∀ (a0_0:Int) (a0_1:Int) (a0_2:Int) (a0_3:Int) (A0_4:Option Addr) (c0_4:Nat) (l0_4:List (S62)) (A0_5:Option Addr) (c0_5:Nat) (l0_5:List (S62)) (a1:Int) (a2:Int) (r:Bool) (w:World) (hr0_4:Kd.C k62 w A0_4 l0_4.length l0_4) (hc0_4:l0_4.length≤c0_4) (hr0_5:Kd.C k62 w A0_5 l0_5.length l0_5) (hc0_5:l0_5.length≤c0_5) (h:Yw.f m_ a0_0 a0_1 a0_2 a0_3 l0_4 l0_5 a1 a2=some r),
  Calls Tryd.prog 66 #[.agg #[.int .i64 a0_0,.int .i64 a0_1,.int .i64 a0_2,.int .i64 a0_3,.slice A0_4 l0_4.length c0_4,.slice A0_5 l0_5.length c0_5],.int .i64 a1,.int .i64 a2] w fun e w'=>e=.returned (.bool r)∧Below w.heap.size w w') (ih:∀ m_,m_<k→∀ (A0:Option Addr) (c0:Nat) (l0:List (S62)) (a1:Int) (a2:Int) (r:Bool) (w:World) (hr0:Kd.C k62 w A0 l0.length l0) (hc0:l0.length≤c0) (h:Yp.f m_ l0 a1 a2=some r),
  Calls Tryd.prog 54 #[.slice A0 l0.length c0,.int .i64 a1,.int .i64 a2] w fun e w'=>e=.returned (.bool r)∧Below w.heap.size w w'):∀ (A0:Option Addr) (c0:Nat) (l0:List (S62)) (a1:Int) (a2:Int) (r:Bool) (w:World) (hr0:Kd.C k62 w A0 l0.length l0) (hc0:l0.length≤c0) (h:Yp.f k l0 a1 a2=some r),
  Calls Tryd.prog 54 #[.slice A0 l0.length c0,.int .i64 a1,.int .i64 a2] w fun e w'=>e=.returned (.bool r)∧Below w.heap.size w w':=by
 intro A0 c0 l0 a1 a2 r w hr0 hc0 h
 cases k with
 |zero=>exact absurd h (by simp [Yp.f])
 |succ k=>
 simp only [Yp.f] at h;have hu62:=Tryd.underlying62;have HR0:=Xa.mk hr0;have HC0:=Xa.mk hc0;clear hr0 hc0;have HB:=Xa.mk (Below.refl w.heap.size w);have H:(Yp.l0 k l0 a1 a2 0)=some r:=h;clear h;have H':=Xa.mk H;clear H
 go_enter Tryd.func54,Tryd.ntmps54
 go_wp2
 go_loopg [7] k (fun kq v7 w'=>∃ (x7_1:Int),v7=.int .i64 x7_1∧Xa (Yp.l0 kq l0 a1 a2 x7_1=some r)∧Xa (kq≤k)∧Xa (Below w.heap.size w w'))
 case atStart=>exact ⟨(0),(by first|rfl|(simp;done)|(simp [*];done)),H',⟨Nat.le_refl _⟩,⟨bl_ HB⟩⟩
 case round=>
  clear H'
  try clear p2
  obtain ⟨x7_1,rfl,HA,HK1,HB⟩:=hrel
  cases gk with
  |zero=>exact absurd HA.out (by simp [Yp.l0])
  |succ k1=>
   have H:=HA.out;clear HA;simp only [Yp.l0] at H;by_cases c4:x7_1<(l0.length:Int)
   ·rw [if_pos c4] at H;have c4b0:decide (x7_1<(l0.length:Int))=true:=decide_eq_true c4;clear c4;by_cases c5:0≤x7_1
    ·rw [if_pos c5] at H;have c5b0:decide (0≤x7_1)=true:=decide_eq_true c5;clear c5;replace H:=Option.bind_eq_some_iff.mp H;obtain ⟨t372,A60,H⟩:=H;replace H:(if t372=true then (Yp.l0 k1 l0 a1 a2 (wrap64 (x7_1+1))) else (some false))=some r:=H;have A6:=Xa.mk A60;clear A60;by_cases c7:t372=true
     ·subst c7
      have H1:(Yp.l0 k1 l0 a1 a2 (wrap64 (x7_1+1)))=some r:=by rw [if_pos rfl] at H;exact H
      clear H;have H:=H1;clear H1;have H':=Xa.mk H;clear H;have p371:0≤(x7_1:Int):=of_decide_eq_true (by first|(with_reducible assumption)|assumption);have q371:x7_1<(l0.length:Int):=of_decide_eq_true (by first|(with_reducible assumption)|assumption);obtain ⟨ad371,A371_4,c371_4,A371_5,c371_5,e371,hx371_0,hx371_1,hx371_2,hx371_3,hx371_4,hx371_5,hl371_4,hi371_4,hl371_5,hi371_5⟩:=at_T62 HR0.out x7_1 p371 q371;cases e371
      replace hx371_0:=(HB.out.cell (World.block_lt_of_cell? w _ hx371_0)).trans hx371_0;replace hx371_1:=(HB.out.cell (World.block_lt_of_cell? w _ hx371_1)).trans hx371_1;replace hx371_2:=(HB.out.cell (World.block_lt_of_cell? w _ hx371_2)).trans hx371_2;replace hx371_3:=(HB.out.cell (World.block_lt_of_cell? w _ hx371_3)).trans hx371_3;replace hx371_4:=(HB.out.cell (World.block_lt_of_cell? w _ hx371_4)).trans hx371_4;replace hx371_5:=(HB.out.cell (World.block_lt_of_cell? w _ hx371_5)).trans hx371_5;have HR371_4:=Xa.mk hi371_4;have HC371_4:=Xa.mk hl371_4;clear hi371_4 hl371_4;have HR371_5:=Xa.mk hi371_5;have HC371_5:=Xa.mk hl371_5;clear hi371_5 hl371_5;replace p371:=eq_true p371;replace q371:=eq_true q371;go_wp2_with (first|((with_reducible refine Xj (f:=66) rfl ?_);refine Yu (some 20) rfl rfl Tryd.func66 (by kernel_rfl) rfl #[.agg #[.int .i64 ((Yv l0 x7_1).f0),.int .i64 ((Yv l0 x7_1).f1),.int .i64 ((Yv l0 x7_1).f2),.int .i64 ((Yv l0 x7_1).f3),.slice A371_4 ((Yv l0 x7_1).f4).length c371_4,.slice A371_5 ((Yv l0 x7_1).f5).length c371_5],.int .i64 a1,.int .i64 a2] rfl ga_ ?_;(with_reducible refine (ih_spec_l2Stmt k1 (by have:=HK1.out;omega) ((Yv l0 x7_1).f0) ((Yv l0 x7_1).f1) ((Yv l0 x7_1).f2) ((Yv l0 x7_1).f3) _ _ ((Yv l0 x7_1).f4) _ _ ((Yv l0 x7_1).f5) a1 a2 true _ ?side1 ?side2 ?side3 ?side4 A6.out).mono ?_);(case side1=>repeat (first|exact (Kd.Zl HR371_4.out HB.out)|(with_reducible refine Kd.Yc ?_ _)|(with_reducible refine Kd.Yd ?_ _)|(with_reducible refine Kd.Yo ?_)));(case side2=>exact HC371_4.out);(case side3=>repeat (first|exact (Kd.Zl HR371_5.out HB.out)|(with_reducible refine Kd.Yc ?_ _)|(with_reducible refine Kd.Yd ?_ _)|(with_reducible refine Kd.Yo ?_)));(case side4=>exact HC371_5.out);rintro e w8 ⟨rfl,hb⟩;refine ⟨_,rfl,?_⟩;have n0_:=Xa.mk (Xc (bl_ HB) hb);clear HB;have HB:=n0_;clear n0_;(try clear hb);(try clear hb2);(try clear hk);(try clear hi)))
      go_roundg k1
      case measure=>have:=HK1.out;omega
      case rel=>exact ⟨(wrap64 (x7_1+1)),(by first|rfl|(simp;done)|(simp [*];done)),H',⟨by have:=HK1.out;omega⟩,⟨bl_ HB⟩⟩
     ·replace c7:=Bool.eq_false_iff.mpr c7;subst c7
      have H1:(some false)=some r:=by rw [if_neg (show ¬ (false=true) by decide)] at H;exact H
      clear H;have H:=H1;clear H1;obtain rfl:=Option.some.inj H;have p371:0≤(x7_1:Int):=of_decide_eq_true (by first|(with_reducible assumption)|assumption);have q371:x7_1<(l0.length:Int):=of_decide_eq_true (by first|(with_reducible assumption)|assumption);obtain ⟨ad371,A371_4,c371_4,A371_5,c371_5,e371,hx371_0,hx371_1,hx371_2,hx371_3,hx371_4,hx371_5,hl371_4,hi371_4,hl371_5,hi371_5⟩:=at_T62 HR0.out x7_1 p371 q371;cases e371
      replace hx371_0:=(HB.out.cell (World.block_lt_of_cell? w _ hx371_0)).trans hx371_0;replace hx371_1:=(HB.out.cell (World.block_lt_of_cell? w _ hx371_1)).trans hx371_1;replace hx371_2:=(HB.out.cell (World.block_lt_of_cell? w _ hx371_2)).trans hx371_2;replace hx371_3:=(HB.out.cell (World.block_lt_of_cell? w _ hx371_3)).trans hx371_3;replace hx371_4:=(HB.out.cell (World.block_lt_of_cell? w _ hx371_4)).trans hx371_4;replace hx371_5:=(HB.out.cell (World.block_lt_of_cell? w _ hx371_5)).trans hx371_5;have HR371_4:=Xa.mk hi371_4;have HC371_4:=Xa.mk hl371_4;clear hi371_4 hl371_4;have HR371_5:=Xa.mk hi371_5;have HC371_5:=Xa.mk hl371_5;clear hi371_5 hl371_5;replace p371:=eq_true p371;replace q371:=eq_true q371;go_wp2_with (first|((with_reducible refine Xj (f:=66) rfl ?_);refine Yu (some 20) rfl rfl Tryd.func66 (by kernel_rfl) rfl #[.agg #[.int .i64 ((Yv l0 x7_1).f0),.int .i64 ((Yv l0 x7_1).f1),.int .i64 ((Yv l0 x7_1).f2),.int .i64 ((Yv l0 x7_1).f3),.slice A371_4 ((Yv l0 x7_1).f4).length c371_4,.slice A371_5 ((Yv l0 x7_1).f5).length c371_5],.int .i64 a1,.int .i64 a2] rfl ga_ ?_;(with_reducible refine (ih_spec_l2Stmt k1 (by have:=HK1.out;omega) ((Yv l0 x7_1).f0) ((Yv l0 x7_1).f1) ((Yv l0 x7_1).f2) ((Yv l0 x7_1).f3) _ _ ((Yv l0 x7_1).f4) _ _ ((Yv l0 x7_1).f5) a1 a2 false _ ?side1 ?side2 ?side3 ?side4 A6.out).mono ?_);(case side1=>repeat (first|exact (Kd.Zl HR371_4.out HB.out)|(with_reducible refine Kd.Yc ?_ _)|(with_reducible refine Kd.Yd ?_ _)|(with_reducible refine Kd.Yo ?_)));(case side2=>exact HC371_4.out);(case side3=>repeat (first|exact (Kd.Zl HR371_5.out HB.out)|(with_reducible refine Kd.Yc ?_ _)|(with_reducible refine Kd.Yd ?_ _)|(with_reducible refine Kd.Yo ?_)));(case side4=>exact HC371_5.out);rintro e w9 ⟨rfl,hb⟩;refine ⟨_,rfl,?_⟩;have n0_:=Xa.mk (Xc (bl_ HB) hb);clear HB;have HB:=n0_;clear n0_;(try clear hb);(try clear hb2);(try clear hk);(try clear hi)))
      go_ret
      exact ⟨rf_,bl_ HB⟩
    ·rw [if_neg c5] at H;exact absurd H (by simp)
   ·rw [if_neg c4] at H;have c4b0:decide (x7_1<(l0.length:Int))=false:=decide_eq_false c4;clear c4;obtain rfl:=Option.some.inj H;go_wp2
    go_ret
    exact ⟨rf_,bl_ HB⟩
theorem spec_l2Stmt_spec_l2List.all (k:Nat):(∀ (a0_0:Int) (a0_1:Int) (a0_2:Int) (a0_3:Int) (A0_4:Option Addr) (c0_4:Nat) (l0_4:List (S62)) (A0_5:Option Addr) (c0_5:Nat) (l0_5:List (S62)) (a1:Int) (a2:Int) (r:Bool) (w:World) (hr0_4:Kd.C k62 w A0_4 l0_4.length l0_4) (hc0_4:l0_4.length≤c0_4) (hr0_5:Kd.C k62 w A0_5 l0_5.length l0_5) (hc0_5:l0_5.length≤c0_5) (h:Yw.f k a0_0 a0_1 a0_2 a0_3 l0_4 l0_5 a1 a2=some r),
  Calls Tryd.prog 66 #[.agg #[.int .i64 a0_0,.int .i64 a0_1,.int .i64 a0_2,.int .i64 a0_3,.slice A0_4 l0_4.length c0_4,.slice A0_5 l0_5.length c0_5],.int .i64 a1,.int .i64 a2] w fun e w'=>e=.returned (.bool r)∧Below w.heap.size w w')∧(∀ (A0:Option Addr) (c0:Nat) (l0:List (S62)) (a1:Int) (a2:Int) (r:Bool) (w:World) (hr0:Kd.C k62 w A0 l0.length l0) (hc0:l0.length≤c0) (h:Yp.f k l0 a1 a2=some r),
  Calls Tryd.prog 54 #[.slice A0 l0.length c0,.int .i64 a1,.int .i64 a2] w fun e w'=>e=.returned (.bool r)∧Below w.heap.size w w'):=by
 induction k using Nat.strongRecOn with
 |_ k ih=>exact ⟨Yw.step k (fun m hm=>(ih m hm).1) (fun m hm=>(ih m hm).2),Yp.step k (fun m hm=>(ih m hm).1) (fun m hm=>(ih m hm).2)⟩
theorem Yp.calls (k:Nat):∀ (A0:Option Addr) (c0:Nat) (l0:List (S62)) (a1:Int) (a2:Int) (r:Bool) (w:World) (hr0:Kd.C k62 w A0 l0.length l0) (hc0:l0.length≤c0) (h:Yp.f k l0 a1 a2=some r),
  Calls Tryd.prog 54 #[.slice A0 l0.length c0,.int .i64 a1,.int .i64 a2] w fun e w'=>e=.returned (.bool r)∧Below w.heap.size w w':=(spec_l2Stmt_spec_l2List.all k).2
end Go.Proofs.YtdkcjecllbdljaaDoor.GCode
