import Derived.Test.YtpcfebhpapdkcaaDoorCFnExactWorldText22
import Derived.Test.YtpcfebhpapdkcaaDoorCFnExactWorldText33
namespace Go.Proofs.YtpcfebhpapdkcaaDoor.GWorld
open Go.RowKit Go.Proofs.YtpcfebhpapdkcaaDoorW.PrintWords Go.Proofs.YtpcfebhpapdkcaaDoorW.PrintLast Go.Proofs.YtpcfebhpapdkcaaDoorW.PrintMore
attribute [local go_sem] max2_int min2_int max_two min_two Uc Ud max_four min_four
set_option linter.unusedVariables false
set_option linter.unusedSimpArgs false
def Yu.l0:Nat→List (List Int)→List (List Int)→Int→Option (Bool)
 |0,_,_,_=>none
 |k+1,x0,x1,x5=>if x5<(x0.length:Int) then (if 0≤x5 then (if x5<(x1.length:Int) then ((Yd.f k (rd_L2 x0 x5) (rd_L2 x1 x5)).bind fun t295=>(if t295=true then (Yu.l0 k x0 x1 (wrap64 (x5+1))) else (some false))) else (none)) else (none)) else (some true)
def Yu.f (k:Nat) (l0:List (List Int)) (l1:List (List Int)):Option (Bool):=if (l0.length:Int)=(l1.length:Int) then (Yu.l0 k l0 l1 0) else (some false)
set_option maxHeartbeats 8000000 in
set_option maxRecDepth 100000 in
theorem Yu.calls (k:Nat) (A0:Option Addr) (c0:Nat) (l0:List (List Int)) (A1:Option Addr) (c1:Nat) (l1:List (List Int)) (r:Bool) (w:World) (hr0:Kd.C (Kd.slice 3 (Kd.int .i64)) w A0 l0.length l0) (hc0:l0.length≤c0) (hr1:Kd.C (Kd.slice 3 (Kd.int .i64)) w A1 l1.length l1) (hc1:l1.length≤c1) (h:Yu.f k l0 l1=some r) :
  Calls Tryd.prog 23 #[.slice A0 l0.length c0,.slice A1 l1.length c1] w fun e w'=>e=.returned (.bool r)∧Zh w w':=by
 have HR0:=Xa.mk hr0;have HC0:=Xa.mk hc0;clear hr0 hc0;have HR1:=Xa.mk hr1;have HC1:=Xa.mk hc1;clear hr1 hc1;have H:(if (l0.length:Int)=(l1.length:Int) then (Yu.l0 k l0 l1 0) else (some false))=some r:=h;clear h;by_cases c3:(l0.length:Int)=(l1.length:Int)
 ·rw [if_pos c3] at H;have c3b0:((l0.length:Int) == (l1.length:Int))=true:=beq_iff_eq.mpr c3;have c3b1:((l0.length:Int) != (l1.length:Int))=false:=bne_eq_false_iff_eq.mpr c3
  have c3b2:(l0.length == l1.length)=true:=by first|simpa using c3|(simp at c3 ⊢;omega)
  clear c3;have H':=Xa.mk H;clear H
  go_enter Tryd.func23,Tryd.ntmps23
  go_wp2
  repeat (go_quiet (fail);try go_wp2)
  go_loopg [5] k (fun kq v5 w'=>∃ (x5_1:Int),v5=.int .i64 x5_1∧Xa (Yu.l0 kq l0 l1 x5_1=some r)∧Xa (kq≤k)∧Zh w w')
  case atStart=>exact ⟨(0),(by first|rfl|(simp;done)|(simp [*];done)),H',⟨Nat.le_refl _⟩,by repeat (first|exact Zh.refl _|apply Zh.step)⟩
  case round=>
   clear H'
   try clear c1
   try clear c2
   try clear p2
   try clear c3
   try clear c3b0
   try clear c3b1
   try clear c3b2
   obtain ⟨x5_1,rfl,HA,HK1,⟨m1,rfl⟩⟩:=hrel
   cases gk with
   |zero=>exact absurd HA.out (by simp [Yu.l0])
   |succ k1=>
    have H:=HA.out;clear HA;simp only [Yu.l0] at H;by_cases c4:x5_1<(l0.length:Int)
    ·rw [if_pos c4] at H;have c4b0:decide (x5_1<(l0.length:Int))=true:=decide_eq_true c4;clear c4;by_cases c5:0≤x5_1
     ·rw [if_pos c5] at H;have c5b0:decide (0≤x5_1)=true:=decide_eq_true c5;clear c5;by_cases c6:x5_1<(l1.length:Int)
      ·rw [if_pos c6] at H;have c6b0:decide (x5_1<(l1.length:Int))=true:=decide_eq_true c6;clear c6;replace H:=Option.bind_eq_some_iff.mp H;obtain ⟨t295,A70,H⟩:=H;replace H:(if t295=true then (Yu.l0 k1 l0 l1 (wrap64 (x5_1+1))) else (some false))=some r:=H;have A7:=Xa.mk A70;clear A70;by_cases c8:t295=true
       ·subst c8
        have H1:(Yu.l0 k1 l0 l1 (wrap64 (x5_1+1)))=some r:=by rw [if_pos rfl] at H;exact H
        clear H;have H:=H1;clear H1;have H':=Xa.mk H;clear H;have p293:0≤(x5_1:Int):=of_decide_eq_true (by first|(with_reducible assumption)|assumption);have q293:x5_1<(l0.length:Int):=of_decide_eq_true (by first|(with_reducible assumption)|assumption);obtain ⟨ad293,A293_0,c293_0,e293,hx293_0,hl293_0,hi293_0⟩:=at_L2 HR0.out x5_1 p293 q293;cases e293
        have HR293_0:=Xa.mk hi293_0;have HC293_0:=Xa.mk hl293_0;clear hi293_0 hl293_0;replace p293:=eq_true p293;replace q293:=eq_true q293;have p294:0≤(x5_1:Int):=of_decide_eq_true (by first|(with_reducible assumption)|assumption);have q294:x5_1<(l1.length:Int):=of_decide_eq_true (by first|(with_reducible assumption)|assumption);obtain ⟨ad294,A294_0,c294_0,e294,hx294_0,hl294_0,hi294_0⟩:=at_L2 HR1.out x5_1 p294 q294;cases e294
        have HR294_0:=Xa.mk hi294_0;have HC294_0:=Xa.mk hl294_0;clear hi294_0 hl294_0;replace p294:=eq_true p294;replace q294:=eq_true q294;go_wp2_with (first|(go_at_call 22;(with_reducible refine (Yd.calls k1 _ _ (rd_L2 l0 x5_1) _ _ (rd_L2 l1 x5_1) true _ ?side1 ?side2 ?side3 ?side4 A7.out).mono ?_);(case side1=>repeat (first|exact HR293_0.out|(with_reducible refine Kd.Xe ?_ _)|(with_reducible refine Kd.Xf ?_ _)|(with_reducible refine Kd.Xn ?_)));(case side2=>exact HC293_0.out);(case side3=>repeat (first|exact HR294_0.out|(with_reducible refine Kd.Xe ?_ _)|(with_reducible refine Kd.Xf ?_ _)|(with_reducible refine Kd.Xn ?_)));(case side4=>exact HC294_0.out);rintro e w' ⟨rfl,⟨nd,rfl⟩⟩;(try first|exact ⟨rfl,_,World.drewN_drewN _ _ _⟩|exact ⟨rfl,_,Eq.trans (World.drewN_drewN _ _ _) (congrArg (World.drewN _) (Nat.add_assoc _ _ _))⟩)))
        repeat (go_quiet (first|(go_at_call 22;(with_reducible refine (Yd.calls k1 _ _ (rd_L2 l0 x5_1) _ _ (rd_L2 l1 x5_1) true _ ?side1 ?side2 ?side3 ?side4 A7.out).mono ?_);(case side1=>repeat (first|exact HR293_0.out|(with_reducible refine Kd.Xe ?_ _)|(with_reducible refine Kd.Xf ?_ _)|(with_reducible refine Kd.Xn ?_)));(case side2=>exact HC293_0.out);(case side3=>repeat (first|exact HR294_0.out|(with_reducible refine Kd.Xe ?_ _)|(with_reducible refine Kd.Xf ?_ _)|(with_reducible refine Kd.Xn ?_)));(case side4=>exact HC294_0.out);rintro e w' ⟨rfl,⟨nd,rfl⟩⟩;(try first|exact ⟨rfl,_,World.drewN_drewN _ _ _⟩|exact ⟨rfl,_,Eq.trans (World.drewN_drewN _ _ _) (congrArg (World.drewN _) (Nat.add_assoc _ _ _))⟩)));try go_wp2_with (first|(go_at_call 22;(with_reducible refine (Yd.calls k1 _ _ (rd_L2 l0 x5_1) _ _ (rd_L2 l1 x5_1) true _ ?side1 ?side2 ?side3 ?side4 A7.out).mono ?_);(case side1=>repeat (first|exact HR293_0.out|(with_reducible refine Kd.Xe ?_ _)|(with_reducible refine Kd.Xf ?_ _)|(with_reducible refine Kd.Xn ?_)));(case side2=>exact HC293_0.out);(case side3=>repeat (first|exact HR294_0.out|(with_reducible refine Kd.Xe ?_ _)|(with_reducible refine Kd.Xf ?_ _)|(with_reducible refine Kd.Xn ?_)));(case side4=>exact HC294_0.out);rintro e w' ⟨rfl,⟨nd,rfl⟩⟩;(try first|exact ⟨rfl,_,World.drewN_drewN _ _ _⟩|exact ⟨rfl,_,Eq.trans (World.drewN_drewN _ _ _) (congrArg (World.drewN _) (Nat.add_assoc _ _ _))⟩))))
        go_roundg k1
        case measure=>have:=HK1.out;omega
        case rel=>exact ⟨(wrap64 (x5_1+1)),(by first|rfl|(simp;done)|(simp [*];done)),H',⟨by have:=HK1.out;omega⟩,by repeat (first|exact Zh.refl _|apply Zh.step)⟩
       ·replace c8:=Bool.eq_false_iff.mpr c8;subst c8
        have H1:(some false)=some r:=by rw [if_neg (show ¬ (false=true) by decide)] at H;exact H
        clear H;have H:=H1;clear H1;obtain rfl:=Option.some.inj H;have p293:0≤(x5_1:Int):=of_decide_eq_true (by first|(with_reducible assumption)|assumption);have q293:x5_1<(l0.length:Int):=of_decide_eq_true (by first|(with_reducible assumption)|assumption);obtain ⟨ad293,A293_0,c293_0,e293,hx293_0,hl293_0,hi293_0⟩:=at_L2 HR0.out x5_1 p293 q293;cases e293
        have HR293_0:=Xa.mk hi293_0;have HC293_0:=Xa.mk hl293_0;clear hi293_0 hl293_0;replace p293:=eq_true p293;replace q293:=eq_true q293;have p294:0≤(x5_1:Int):=of_decide_eq_true (by first|(with_reducible assumption)|assumption);have q294:x5_1<(l1.length:Int):=of_decide_eq_true (by first|(with_reducible assumption)|assumption);obtain ⟨ad294,A294_0,c294_0,e294,hx294_0,hl294_0,hi294_0⟩:=at_L2 HR1.out x5_1 p294 q294;cases e294
        have HR294_0:=Xa.mk hi294_0;have HC294_0:=Xa.mk hl294_0;clear hi294_0 hl294_0;replace p294:=eq_true p294;replace q294:=eq_true q294;go_wp2_with (first|(go_at_call 22;(with_reducible refine (Yd.calls k1 _ _ (rd_L2 l0 x5_1) _ _ (rd_L2 l1 x5_1) false _ ?side1 ?side2 ?side3 ?side4 A7.out).mono ?_);(case side1=>repeat (first|exact HR293_0.out|(with_reducible refine Kd.Xe ?_ _)|(with_reducible refine Kd.Xf ?_ _)|(with_reducible refine Kd.Xn ?_)));(case side2=>exact HC293_0.out);(case side3=>repeat (first|exact HR294_0.out|(with_reducible refine Kd.Xe ?_ _)|(with_reducible refine Kd.Xf ?_ _)|(with_reducible refine Kd.Xn ?_)));(case side4=>exact HC294_0.out);rintro e w' ⟨rfl,⟨nd,rfl⟩⟩;(try first|exact ⟨rfl,_,World.drewN_drewN _ _ _⟩|exact ⟨rfl,_,Eq.trans (World.drewN_drewN _ _ _) (congrArg (World.drewN _) (Nat.add_assoc _ _ _))⟩)))
        repeat (go_quiet (first|(go_at_call 22;(with_reducible refine (Yd.calls k1 _ _ (rd_L2 l0 x5_1) _ _ (rd_L2 l1 x5_1) false _ ?side1 ?side2 ?side3 ?side4 A7.out).mono ?_);(case side1=>repeat (first|exact HR293_0.out|(with_reducible refine Kd.Xe ?_ _)|(with_reducible refine Kd.Xf ?_ _)|(with_reducible refine Kd.Xn ?_)));(case side2=>exact HC293_0.out);(case side3=>repeat (first|exact HR294_0.out|(with_reducible refine Kd.Xe ?_ _)|(with_reducible refine Kd.Xf ?_ _)|(with_reducible refine Kd.Xn ?_)));(case side4=>exact HC294_0.out);rintro e w' ⟨rfl,⟨nd,rfl⟩⟩;(try first|exact ⟨rfl,_,World.drewN_drewN _ _ _⟩|exact ⟨rfl,_,Eq.trans (World.drewN_drewN _ _ _) (congrArg (World.drewN _) (Nat.add_assoc _ _ _))⟩)));try go_wp2_with (first|(go_at_call 22;(with_reducible refine (Yd.calls k1 _ _ (rd_L2 l0 x5_1) _ _ (rd_L2 l1 x5_1) false _ ?side1 ?side2 ?side3 ?side4 A7.out).mono ?_);(case side1=>repeat (first|exact HR293_0.out|(with_reducible refine Kd.Xe ?_ _)|(with_reducible refine Kd.Xf ?_ _)|(with_reducible refine Kd.Xn ?_)));(case side2=>exact HC293_0.out);(case side3=>repeat (first|exact HR294_0.out|(with_reducible refine Kd.Xe ?_ _)|(with_reducible refine Kd.Xf ?_ _)|(with_reducible refine Kd.Xn ?_)));(case side4=>exact HC294_0.out);rintro e w' ⟨rfl,⟨nd,rfl⟩⟩;(try first|exact ⟨rfl,_,World.drewN_drewN _ _ _⟩|exact ⟨rfl,_,Eq.trans (World.drewN_drewN _ _ _) (congrArg (World.drewN _) (Nat.add_assoc _ _ _))⟩))))
        go_ret
        exact ⟨by first|rfl|(simp;done)|(simp [*];done),by repeat (first|exact Zh.refl _|apply Zh.step)⟩
      ·rw [if_neg c6] at H;exact absurd H (by simp)
     ·rw [if_neg c5] at H;exact absurd H (by simp)
    ·rw [if_neg c4] at H;have c4b0:decide (x5_1<(l0.length:Int))=false:=decide_eq_false c4;clear c4;obtain rfl:=Option.some.inj H;go_wp2
     repeat (go_quiet (fail);try go_wp2)
     go_ret
     exact ⟨by first|rfl|(simp;done)|(simp [*];done),by repeat (first|exact Zh.refl _|apply Zh.step)⟩
 ·rw [if_neg c3] at H;have c3b0:((l0.length:Int) == (l1.length:Int))=false:=beq_eq_false_iff_ne.mpr c3;have c3b1:((l0.length:Int) != (l1.length:Int))=true:=bne_iff_ne.mpr c3
  have c3b2:(l0.length == l1.length)=false:=by first|simpa using c3|(simp at c3 ⊢;omega)
  obtain rfl:=Option.some.inj H
  go_enter Tryd.func23,Tryd.ntmps23
  go_wp2
  repeat (go_quiet (fail);try go_wp2)
  go_ret
  exact ⟨by first|rfl|(simp;done)|(simp [*];done),by repeat (first|exact Zh.refl _|apply Zh.step)⟩
def laws_eqSay.f (a0_0:Int) (a0_1:Int) (a1_0:Int) (a1_1:Int):Option (Bool):=if a0_0=a1_0 then (if a0_1=a1_1 then (some true) else (some false)) else (some false)
set_option maxHeartbeats 8000000 in
set_option maxRecDepth 100000 in
theorem laws_eqSay.calls (a0_0:Int) (a0_1:Int) (a1_0:Int) (a1_1:Int) (r:Bool) (w:World) (h:laws_eqSay.f a0_0 a0_1 a1_0 a1_1=some r) :
  Calls Tryd.prog 31 #[.agg #[.int .i64 a0_0,.int .i64 a0_1],.agg #[.int .i64 a1_0,.int .i64 a1_1]] w fun e w'=>e=.returned (.bool r)∧Below w.heap.size w w':=by
 have hu47:=Tryd.underlying47;have HB:=Xa.mk (Below.refl w.heap.size w);have H:(if a0_0=a1_0 then (if a0_1=a1_1 then (some true) else (some false)) else (some false))=some r:=h;clear h;by_cases c3:a0_0=a1_0
 ·rw [if_pos c3] at H;have c3b0:(a0_0 == a1_0)=true:=beq_iff_eq.mpr c3;have c3b1:(a0_0 != a1_0)=false:=bne_eq_false_iff_eq.mpr c3;clear c3;by_cases c4:a0_1=a1_1
  ·rw [if_pos c4] at H;have c4b0:(a0_1 == a1_1)=true:=beq_iff_eq.mpr c4;have c4b1:(a0_1 != a1_1)=false:=bne_eq_false_iff_eq.mpr c4;clear c4;obtain rfl:=Option.some.inj H
   go_enter Tryd.func31,Tryd.ntmps31
   go_wp2_with (first|((with_reducible refine Xy (N:=2) rfl ?_);refine Xw ?hg (N:=2) ?hd (cs:=#[.int .i64 a0_0,.int .i64 a0_1]) (t:=47) ?hr ?_;(case hd=>rfl);(case hg=>rfl);(case hr=>first|(go_simp;done)|(go_simp;rfl));intro gb296 hg w5 hbox hb;have n0_:=Xa.mk (Xc (bl_ HB) hb);have n1_:=Xa.mk (hbox);have n2_:=Xa.mk ((by rw [hg];exact (Xb (bl_ HB)):w.heap.size≤gb296));have n3_:=Xa.mk ((by rw [hg];exact (Xb (bl_ HB)):w.heap.size≤gb296));clear HB;have HB:=n0_;have BK296:=n1_;have GW296:=n2_;have GE296:=n3_;clear n0_ n1_ n2_ n3_;clear hb hbox hg)|((with_reducible refine Xy (N:=3) rfl ?_);refine Xw ?hg (N:=3) ?hd (cs:=#[.int .i64 a1_0,.int .i64 a1_1]) (t:=47) ?hr ?_;(case hd=>rfl);(case hg=>rfl);(case hr=>first|(go_simp;done)|(go_simp;rfl));intro gb297 hg w6 hbox hb;have n0_:=Xa.mk (Xh (g:=gb296) (o:=.cells #[.int .i64 a0_0,.int .i64 a0_1] 47 (0,0)) (ba_ BK296) hb);have n1_:=Xa.mk (Xc (bl_ HB) hb);have n2_:=Xa.mk (hbox);have n3_:=Xa.mk ((by rw [hg];exact (Xb (bl_ HB)):w.heap.size≤gb297));have n4_:=Xa.mk ((by rw [hg];exact (Xb (bl_ HB)):w.heap.size≤gb297));have n5_:=Xa.mk ((by rw [hg];exact Nat.ne_of_lt (Ym (g:=gb296) (o:=.cells #[.int .i64 a0_0,.int .i64 a0_1] 47 (0,0)) (ba_ BK296)):gb296≠gb297));have n6_:=Xa.mk ((by rw [hg];exact Nat.ne_of_gt (Ym (g:=gb296) (o:=.cells #[.int .i64 a0_0,.int .i64 a0_1] 47 (0,0)) (ba_ BK296)):gb297≠gb296));clear BK296;clear HB;have BK296:=n0_;have HB:=n1_;have BK297:=n2_;have GW297:=n3_;have GE297:=n4_;have NB296_297:=n5_;have NB297_296:=n6_;clear n0_ n1_ n2_ n3_ n4_ n5_ n6_;clear hb hbox hg;have hnb7:=NB296_297.out;have hnc7:=NB297_296.out;obtain ⟨hcz8_0,hcz8_1⟩:=bc2_ BK296.out;obtain ⟨hfz8_0,hfz8_1⟩:=bf2_ BK296.out;obtain ⟨hcz9_0,hcz9_1⟩:=bc2_ BK297.out;obtain ⟨hfz9_0,hfz9_1⟩:=bf2_ BK297.out))
   go_ret
   exact ⟨rf_,bl_ HB⟩
  ·rw [if_neg c4] at H;have c4b0:(a0_1 == a1_1)=false:=beq_eq_false_iff_ne.mpr c4;have c4b1:(a0_1 != a1_1)=true:=bne_iff_ne.mpr c4;obtain rfl:=Option.some.inj H
   go_enter Tryd.func31,Tryd.ntmps31
   go_wp2_with (first|((with_reducible refine Xy (N:=2) rfl ?_);refine Xw ?hg (N:=2) ?hd (cs:=#[.int .i64 a0_0,.int .i64 a0_1]) (t:=47) ?hr ?_;(case hd=>rfl);(case hg=>rfl);(case hr=>first|(go_simp;done)|(go_simp;rfl));intro gb296 hg w10 hbox hb;have n0_:=Xa.mk (Xc (bl_ HB) hb);have n1_:=Xa.mk (hbox);have n2_:=Xa.mk ((by rw [hg];exact (Xb (bl_ HB)):w.heap.size≤gb296));have n3_:=Xa.mk ((by rw [hg];exact (Xb (bl_ HB)):w.heap.size≤gb296));clear HB;have HB:=n0_;have BK296:=n1_;have GW296:=n2_;have GE296:=n3_;clear n0_ n1_ n2_ n3_;clear hb hbox hg)|((with_reducible refine Xy (N:=3) rfl ?_);refine Xw ?hg (N:=3) ?hd (cs:=#[.int .i64 a1_0,.int .i64 a1_1]) (t:=47) ?hr ?_;(case hd=>rfl);(case hg=>rfl);(case hr=>first|(go_simp;done)|(go_simp;rfl));intro gb297 hg w11 hbox hb;have n0_:=Xa.mk (Xh (g:=gb296) (o:=.cells #[.int .i64 a0_0,.int .i64 a0_1] 47 (0,0)) (ba_ BK296) hb);have n1_:=Xa.mk (Xc (bl_ HB) hb);have n2_:=Xa.mk (hbox);have n3_:=Xa.mk ((by rw [hg];exact (Xb (bl_ HB)):w.heap.size≤gb297));have n4_:=Xa.mk ((by rw [hg];exact (Xb (bl_ HB)):w.heap.size≤gb297));have n5_:=Xa.mk ((by rw [hg];exact Nat.ne_of_lt (Ym (g:=gb296) (o:=.cells #[.int .i64 a0_0,.int .i64 a0_1] 47 (0,0)) (ba_ BK296)):gb296≠gb297));have n6_:=Xa.mk ((by rw [hg];exact Nat.ne_of_gt (Ym (g:=gb296) (o:=.cells #[.int .i64 a0_0,.int .i64 a0_1] 47 (0,0)) (ba_ BK296)):gb297≠gb296));clear BK296;clear HB;have BK296:=n0_;have HB:=n1_;have BK297:=n2_;have GW297:=n3_;have GE297:=n4_;have NB296_297:=n5_;have NB297_296:=n6_;clear n0_ n1_ n2_ n3_ n4_ n5_ n6_;clear hb hbox hg;have hnb12:=NB296_297.out;have hnc12:=NB297_296.out;obtain ⟨hcz13_0,hcz13_1⟩:=bc2_ BK296.out;obtain ⟨hfz13_0,hfz13_1⟩:=bf2_ BK296.out;obtain ⟨hcz14_0,hcz14_1⟩:=bc2_ BK297.out;obtain ⟨hfz14_0,hfz14_1⟩:=bf2_ BK297.out))
   go_ret
   exact ⟨rf_,bl_ HB⟩
 ·rw [if_neg c3] at H;have c3b0:(a0_0 == a1_0)=false:=beq_eq_false_iff_ne.mpr c3;have c3b1:(a0_0 != a1_0)=true:=bne_iff_ne.mpr c3;obtain rfl:=Option.some.inj H
  go_enter Tryd.func31,Tryd.ntmps31
  go_wp2_with (first|((with_reducible refine Xy (N:=2) rfl ?_);refine Xw ?hg (N:=2) ?hd (cs:=#[.int .i64 a0_0,.int .i64 a0_1]) (t:=47) ?hr ?_;(case hd=>rfl);(case hg=>rfl);(case hr=>first|(go_simp;done)|(go_simp;rfl));intro gb296 hg w15 hbox hb;have n0_:=Xa.mk (Xc (bl_ HB) hb);have n1_:=Xa.mk (hbox);have n2_:=Xa.mk ((by rw [hg];exact (Xb (bl_ HB)):w.heap.size≤gb296));have n3_:=Xa.mk ((by rw [hg];exact (Xb (bl_ HB)):w.heap.size≤gb296));clear HB;have HB:=n0_;have BK296:=n1_;have GW296:=n2_;have GE296:=n3_;clear n0_ n1_ n2_ n3_;clear hb hbox hg)|((with_reducible refine Xy (N:=3) rfl ?_);refine Xw ?hg (N:=3) ?hd (cs:=#[.int .i64 a1_0,.int .i64 a1_1]) (t:=47) ?hr ?_;(case hd=>rfl);(case hg=>rfl);(case hr=>first|(go_simp;done)|(go_simp;rfl));intro gb297 hg w16 hbox hb;have n0_:=Xa.mk (Xh (g:=gb296) (o:=.cells #[.int .i64 a0_0,.int .i64 a0_1] 47 (0,0)) (ba_ BK296) hb);have n1_:=Xa.mk (Xc (bl_ HB) hb);have n2_:=Xa.mk (hbox);have n3_:=Xa.mk ((by rw [hg];exact (Xb (bl_ HB)):w.heap.size≤gb297));have n4_:=Xa.mk ((by rw [hg];exact (Xb (bl_ HB)):w.heap.size≤gb297));have n5_:=Xa.mk ((by rw [hg];exact Nat.ne_of_lt (Ym (g:=gb296) (o:=.cells #[.int .i64 a0_0,.int .i64 a0_1] 47 (0,0)) (ba_ BK296)):gb296≠gb297));have n6_:=Xa.mk ((by rw [hg];exact Nat.ne_of_gt (Ym (g:=gb296) (o:=.cells #[.int .i64 a0_0,.int .i64 a0_1] 47 (0,0)) (ba_ BK296)):gb297≠gb296));clear BK296;clear HB;have BK296:=n0_;have HB:=n1_;have BK297:=n2_;have GW297:=n3_;have GE297:=n4_;have NB296_297:=n5_;have NB297_296:=n6_;clear n0_ n1_ n2_ n3_ n4_ n5_ n6_;clear hb hbox hg;have hnb17:=NB296_297.out;have hnc17:=NB297_296.out;obtain ⟨hcz18_0,hcz18_1⟩:=bc2_ BK296.out;obtain ⟨hfz18_0,hfz18_1⟩:=bf2_ BK296.out;obtain ⟨hcz19_0,hcz19_1⟩:=bc2_ BK297.out;obtain ⟨hfz19_0,hfz19_1⟩:=bf2_ BK297.out))
  go_ret
  exact ⟨rf_,bl_ HB⟩
def Yj.l0:Nat→List (S47)→List (S47)→Int→Option (Bool)
 |0,_,_,_=>none
 |k+1,x0,x1,x5=>if x5<(x0.length:Int) then (if 0≤x5 then (if x5<(x1.length:Int) then ((laws_eqSay.f ((Yx x0 x5).f0) ((Yx x0 x5).f1) ((Yx x1 x5).f0) ((Yx x1 x5).f1)).bind fun t300=>(if t300=true then (Yj.l0 k x0 x1 (wrap64 (x5+1))) else (some false))) else (none)) else (none)) else (some true)
def Yj.f (k:Nat) (l0:List (S47)) (l1:List (S47)):Option (Bool):=if (l0.length:Int)=(l1.length:Int) then (Yj.l0 k l0 l1 0) else (some false)
def Yj.T6:Bool × List (List Nat × List Nat):=(true,[([],[]),([],[]),([0,1],[0,1]),([2],[2]),([],[]),([],[]),([4,5],[4,5]),([6],[6]),([3,7],[3,7]),([8],[8])])
def Yj.B6:List Nat:=[0,0,3,7,0,0,48,112,255,511]
theorem Yj.tab6:rtab .any (opsOf Tryd.f24 6)=Yj.T6:=by kernel_rfl
theorem Yj.bits6:waitsOk Yj.T6.2 Yj.B6=true:=by kernel_rfl
set_option maxHeartbeats 8000000 in
set_option maxRecDepth 100000 in
theorem Yj.calls (k:Nat) (A0:Option Addr) (c0:Nat) (l0:List (S47)) (A1:Option Addr) (c1:Nat) (l1:List (S47)) (r:Bool) (w:World) (hr0:Kd.C k47 w A0 l0.length l0) (hc0:l0.length≤c0) (hr1:Kd.C k47 w A1 l1.length l1) (hc1:l1.length≤c1) (h:Yj.f k l0 l1=some r) :
  Calls Tryd.prog 24 #[.slice A0 l0.length c0,.slice A1 l1.length c1] w fun e w'=>e=.returned (.bool r)∧Below w.heap.size w w':=by
 have hu47:=Tryd.underlying47;have HR0:=Xa.mk hr0;have HC0:=Xa.mk hc0;clear hr0 hc0;have HR1:=Xa.mk hr1;have HC1:=Xa.mk hc1;clear hr1 hc1;have HB:=Xa.mk (Below.refl w.heap.size w);have H:(if (l0.length:Int)=(l1.length:Int) then (Yj.l0 k l0 l1 0) else (some false))=some r:=h;clear h;by_cases c3:(l0.length:Int)=(l1.length:Int)
 ·rw [if_pos c3] at H;have c3b0:((l0.length:Int) == (l1.length:Int))=true:=beq_iff_eq.mpr c3;have c3b1:((l0.length:Int) != (l1.length:Int))=false:=bne_eq_false_iff_eq.mpr c3
  have c3b2:(l0.length == l1.length)=true:=by first|simpa using c3|(simp at c3 ⊢;omega)
  clear c3;have H':=Xa.mk H;clear H
  go_enter Tryd.func24,Tryd.ntmps24
  go_wp2
  go_loopg [5] k (fun kq v5 w'=>∃ (x5_1:Int),v5=.int .i64 x5_1∧Xa (Yj.l0 kq l0 l1 x5_1=some r)∧Xa (kq≤k)∧Xa (Below w.heap.size w w'))
  case atStart=>exact ⟨(0),(by first|rfl|(simp;done)|(simp [*];done)),H',⟨Nat.le_refl _⟩,⟨bl_ HB⟩⟩
  case round=>
   clear H'
   try clear c1
   try clear c2
   try clear p2
   try clear c3
   try clear c3b0
   try clear c3b1
   try clear c3b2
   obtain ⟨x5_1,rfl,HA,HK1,HB⟩:=hrel
   cases gk with
   |zero=>exact absurd HA.out (by simp [Yj.l0])
   |succ k1=>
    have H:=HA.out;clear HA;simp only [Yj.l0] at H;by_cases c4:x5_1<(l0.length:Int)
    ·rw [if_pos c4] at H;have c4b0:decide (x5_1<(l0.length:Int))=true:=decide_eq_true c4;clear c4;by_cases c5:0≤x5_1
     ·rw [if_pos c5] at H;have c5b0:decide (0≤x5_1)=true:=decide_eq_true c5;clear c5;by_cases c6:x5_1<(l1.length:Int)
      ·rw [if_pos c6] at H;have c6b0:decide (x5_1<(l1.length:Int))=true:=decide_eq_true c6;clear c6;replace H:=Option.bind_eq_some_iff.mp H;obtain ⟨t300,A70,H⟩:=H;replace H:(if t300=true then (Yj.l0 k1 l0 l1 (wrap64 (x5_1+1))) else (some false))=some r:=H;have A7:=Xa.mk A70;clear A70;by_cases c8:t300=true
       ·subst c8
        have H1:(Yj.l0 k1 l0 l1 (wrap64 (x5_1+1)))=some r:=by rw [if_pos rfl] at H;exact H
        clear H;have H:=H1;clear H1;have H':=Xa.mk H;clear H
        try go_wp2
        have n0_:=Xa.mk (Zt HB.out);clear HB;have HB:=n0_;clear n0_;have p298:0≤(x5_1:Int):=of_decide_eq_true (by first|(with_reducible assumption)|assumption);have q298:x5_1<(l0.length:Int):=of_decide_eq_true (by first|(with_reducible assumption)|assumption);obtain ⟨ad298,e298,hx298_0,hx298_1⟩:=at_T47 HR0.out x5_1 p298 q298;have hw298_1:=hx298_1;have hw298_0:=hx298_0;cases e298
        replace hx298_0:=(HB.out.cell (World.block_lt_of_cell? w _ hx298_0)).trans hx298_0;replace hx298_1:=(HB.out.cell (World.block_lt_of_cell? w _ hx298_1)).trans hx298_1;replace p298:=eq_true p298;replace q298:=eq_true q298;have p299:0≤(x5_1:Int):=of_decide_eq_true (by first|(with_reducible assumption)|assumption);have q299:x5_1<(l1.length:Int):=of_decide_eq_true (by first|(with_reducible assumption)|assumption);obtain ⟨ad299,e299,hx299_0,hx299_1⟩:=at_T47 HR1.out x5_1 p299 q299;have hw299_1:=hx299_1;have hw299_0:=hx299_0;cases e299
        replace hx299_0:=(HB.out.cell (World.block_lt_of_cell? w _ hx299_0)).trans hx299_0;replace hx299_1:=(HB.out.cell (World.block_lt_of_cell? w _ hx299_1)).trans hx299_1;replace p299:=eq_true p299;replace q299:=eq_true q299;refine start_ (n:=10) (S:=fun w'=>w'.cell? (ad298.add ((x5_1).toNat * 2))=some (.int .i64 ((Yx l0 x5_1).f0))∧w'.cell? ⟨(ad298.add ((x5_1).toNat * 2)).block,(ad298.add ((x5_1).toNat * 2)).off+1,none⟩=some (.int .i64 ((Yx l0 x5_1).f1))∧w'.cell? (ad299.add ((x5_1).toNat * 2))=some (.int .i64 ((Yx l1 x5_1).f0))∧w'.cell? ⟨(ad299.add ((x5_1).toNat * 2)).block,(ad299.add ((x5_1).toNat * 2)).off+1,none⟩=some (.int .i64 ((Yx l1 x5_1).f1))) (ds:=[]) #[false,false,false,false,false,false,false,false,false,false] (by kernel_rfl) rfl rfl ⟨((HB.out.cell (World.block_lt_of_cell? w _ hw298_0)).trans hw298_0),((HB.out.cell (World.block_lt_of_cell? w _ hw298_1)).trans hw298_1),((HB.out.cell (World.block_lt_of_cell? w _ hw299_0)).trans hw299_0),((HB.out.cell (World.block_lt_of_cell? w _ hw299_1)).trans hw299_1)⟩ (fun hHeld=>?_);refine with_tabW Yj.tab6 Yj.bits6 (fun HT_ HW_=>?_)
        generalize wr.drew=w9 at HB hx298_0 hx298_1 hx299_0 hx299_1 hHeld ⊢
        refine Yf (i:=0) (N:=some 17) (v:=?_) (a':=?_) #[true,false,false,false,false,false,false,false,false,false] rfl rfl (Ya HT_.out (by kernel_rfl)) (fun _ _ _ h=>h) (Or.inl ⟨by rfl,?_⟩) ?_ ?_
        rotate_left
        ·intro w';go_simp
         with_reducible rfl
        rotate_left
        ·simp only [Act.put,List.setIfInBounds_toArray,List.set_cons_zero,List.set_cons_succ,Xu,Xt];rfl
        refine Yf (i:=1) (N:=some 18) (v:=?_) (a':=?_) #[true,true,false,false,false,false,false,false,false,false] rfl rfl (Ya HT_.out (by kernel_rfl)) (fun _ _ _ h=>h) (Or.inl ⟨by rfl,?_⟩) ?_ ?_
        rotate_left
        ·intro w';go_simp
         with_reducible rfl
        rotate_left
        ·simp only [Act.put,List.setIfInBounds_toArray,List.set_cons_zero,List.set_cons_succ,Xu,Xt];rfl
        refine Yf (i:=2) (N:=some 19) (v:=?_) (a':=?_) #[true,true,true,false,false,false,false,false,false,false] rfl rfl (Ya HT_.out (by kernel_rfl)) (fun _ _ _ h=>h) (Or.inl ⟨by rfl,?_⟩) ?_ ?_
        rotate_left
        ·intro w';go_simp
         with_reducible rfl
        rotate_left
        ·simp only [Act.put,List.setIfInBounds_toArray,List.set_cons_zero,List.set_cons_succ,Xu,Xt];rfl
        refine Yf (i:=4) (N:=some 21) (v:=?_) (a':=?_) #[true,true,true,false,true,false,false,false,false,false] rfl rfl (Ya HT_.out (by kernel_rfl)) (fun _ _ _ h=>h) (Or.inl ⟨by rfl,?_⟩) ?_ ?_
        rotate_left
        ·intro w';go_simp
         with_reducible rfl
        rotate_left
        ·simp only [Act.put,List.setIfInBounds_toArray,List.set_cons_zero,List.set_cons_succ,Xu,Xt];rfl
        refine Yf (i:=5) (N:=some 22) (v:=?_) (a':=?_) #[true,true,true,false,true,true,false,false,false,false] rfl rfl (Ya HT_.out (by kernel_rfl)) (fun _ _ _ h=>h) (Or.inl ⟨by rfl,?_⟩) ?_ ?_
        rotate_left
        ·intro w';go_simp
         with_reducible rfl
        rotate_left
        ·simp only [Act.put,List.setIfInBounds_toArray,List.set_cons_zero,List.set_cons_succ,Xu,Xt];rfl
        refine Yf (i:=6) (N:=some 23) (v:=?_) (a':=?_) #[true,true,true,false,true,true,true,false,false,false] rfl rfl (Ya HT_.out (by kernel_rfl)) (fun _ _ _ h=>h) (Or.inl ⟨by rfl,?_⟩) ?_ ?_
        rotate_left
        ·intro w';go_simp
         with_reducible rfl
        rotate_left
        ·simp only [Act.put,List.setIfInBounds_toArray,List.set_cons_zero,List.set_cons_succ,Xu,Xt];rfl
        refine Zw (i:=3) (N:=some 20) (v:=?_) (a':=?_) #[true,true,true,true,true,true,true,false,false,false] rfl rfl (Zb HT_.out HW_.out (by kernel_rfl)) (fun _ _ _ h=>h) (Or.inl ⟨by rfl,?_⟩) hHeld ?_ ?_
        rotate_left
        ·rintro w' ⟨s0,s1,s2,s3⟩
         go_simp
         with_reducible rfl
        rotate_left
        ·simp only [Act.put,List.setIfInBounds_toArray,List.set_cons_zero,List.set_cons_succ,Xu,Xt];rfl
        refine Zw (i:=7) (N:=some 24) (v:=?_) (a':=?_) #[true,true,true,true,true,true,true,true,false,false] rfl rfl (Zb HT_.out HW_.out (by kernel_rfl)) (fun _ _ _ h=>h) (Or.inl ⟨by rfl,?_⟩) hHeld ?_ ?_
        rotate_left
        ·rintro w' ⟨s0,s1,s2,s3⟩
         go_simp
         with_reducible rfl
        rotate_left
        ·simp only [Act.put,List.setIfInBounds_toArray,List.set_cons_zero,List.set_cons_succ,Xu,Xt];rfl
        refine one_ (i:=8) (N:=some 25) #[true,true,true,true,true,true,true,true,true,false] rfl rfl (Ue HT_.out (by kernel_rfl)) (by decide) (fun K hK=>?_)
        refine goes_ Tryd.func31 (by kernel_rfl) rfl #[.agg #[.int .i64 ((Yx l0 x5_1).f0),.int .i64 ((Yx l0 x5_1).f1)],.agg #[.int .i64 ((Yx l1 x5_1).f0),.int .i64 ((Yx l1 x5_1).f1)]] (by rfl) rfl rfl ga_ ?_
        with_reducible refine (laws_eqSay.calls ((Yx l0 x5_1).f0) ((Yx l0 x5_1).f1) ((Yx l1 x5_1).f0) ((Yx l1 x5_1).f1) true _ A7.out).mono ?_
        rintro e w10 ⟨rfl,hb⟩
        refine ⟨_,rfl,?_⟩
        have n0_:=Xa.mk (Xc (bl_ HB) hb);clear HB;have HB:=n0_;clear n0_
        (try clear hb)
        (try clear hb2)
        (try clear hk)
        (try clear hi)
        refine hK.out _ _ ⟨((HB.out.cell (World.block_lt_of_cell? w _ hw298_0)).trans hw298_0),((HB.out.cell (World.block_lt_of_cell? w _ hw298_1)).trans hw298_1),((HB.out.cell (World.block_lt_of_cell? w _ hw299_0)).trans hw299_0),((HB.out.cell (World.block_lt_of_cell? w _ hw299_1)).trans hw299_1)⟩ (fun hHeld=>?_)
        clear hK K;refine norm_ (a':=?_) ?_ ?_
        rotate_left
        ·show Act.put _ (some 25) _=_
         simp only [Act.put,List.setIfInBounds_toArray,List.set_cons_zero,List.set_cons_succ,Xu,Xt];rfl
        refine Yf (i:=9) (N:=some 26) (v:=?_) (a':=?_) #[true,true,true,true,true,true,true,true,true,true] rfl rfl (Ya HT_.out (by kernel_rfl)) (fun _ _ _ h=>h) (Or.inl ⟨by rfl,?_⟩) ?_ ?_
        rotate_left
        ·intro w';go_simp
         with_reducible rfl
        rotate_left
        ·simp only [Act.put,List.setIfInBounds_toArray,List.set_cons_zero,List.set_cons_succ,Xu,Xt];rfl
        refine done_ (done_of HT_.out (by kernel_rfl)) ?_
        try go_wp2
        go_roundg k1
        case measure=>have:=HK1.out;omega
        case rel=>exact ⟨(wrap64 (x5_1+1)),(by first|rfl|(simp;done)|(simp [*];done)),H',⟨by have:=HK1.out;omega⟩,⟨bl_ HB⟩⟩
       ·replace c8:=Bool.eq_false_iff.mpr c8;subst c8
        have H1:(some false)=some r:=by rw [if_neg (show ¬ (false=true) by decide)] at H;exact H
        clear H;have H:=H1;clear H1;obtain rfl:=Option.some.inj H
        try go_wp2
        have n0_:=Xa.mk (Zt HB.out);clear HB;have HB:=n0_;clear n0_;have p298:0≤(x5_1:Int):=of_decide_eq_true (by first|(with_reducible assumption)|assumption);have q298:x5_1<(l0.length:Int):=of_decide_eq_true (by first|(with_reducible assumption)|assumption);obtain ⟨ad298,e298,hx298_0,hx298_1⟩:=at_T47 HR0.out x5_1 p298 q298;have hw298_1:=hx298_1;have hw298_0:=hx298_0;cases e298
        replace hx298_0:=(HB.out.cell (World.block_lt_of_cell? w _ hx298_0)).trans hx298_0;replace hx298_1:=(HB.out.cell (World.block_lt_of_cell? w _ hx298_1)).trans hx298_1;replace p298:=eq_true p298;replace q298:=eq_true q298;have p299:0≤(x5_1:Int):=of_decide_eq_true (by first|(with_reducible assumption)|assumption);have q299:x5_1<(l1.length:Int):=of_decide_eq_true (by first|(with_reducible assumption)|assumption);obtain ⟨ad299,e299,hx299_0,hx299_1⟩:=at_T47 HR1.out x5_1 p299 q299;have hw299_1:=hx299_1;have hw299_0:=hx299_0;cases e299
        replace hx299_0:=(HB.out.cell (World.block_lt_of_cell? w _ hx299_0)).trans hx299_0;replace hx299_1:=(HB.out.cell (World.block_lt_of_cell? w _ hx299_1)).trans hx299_1;replace p299:=eq_true p299;replace q299:=eq_true q299;refine start_ (n:=10) (S:=fun w'=>w'.cell? (ad298.add ((x5_1).toNat * 2))=some (.int .i64 ((Yx l0 x5_1).f0))∧w'.cell? ⟨(ad298.add ((x5_1).toNat * 2)).block,(ad298.add ((x5_1).toNat * 2)).off+1,none⟩=some (.int .i64 ((Yx l0 x5_1).f1))∧w'.cell? (ad299.add ((x5_1).toNat * 2))=some (.int .i64 ((Yx l1 x5_1).f0))∧w'.cell? ⟨(ad299.add ((x5_1).toNat * 2)).block,(ad299.add ((x5_1).toNat * 2)).off+1,none⟩=some (.int .i64 ((Yx l1 x5_1).f1))) (ds:=[]) #[false,false,false,false,false,false,false,false,false,false] (by kernel_rfl) rfl rfl ⟨((HB.out.cell (World.block_lt_of_cell? w _ hw298_0)).trans hw298_0),((HB.out.cell (World.block_lt_of_cell? w _ hw298_1)).trans hw298_1),((HB.out.cell (World.block_lt_of_cell? w _ hw299_0)).trans hw299_0),((HB.out.cell (World.block_lt_of_cell? w _ hw299_1)).trans hw299_1)⟩ (fun hHeld=>?_);refine with_tabW Yj.tab6 Yj.bits6 (fun HT_ HW_=>?_)
        generalize wr.drew=w11 at HB hx298_0 hx298_1 hx299_0 hx299_1 hHeld ⊢
        refine Yf (i:=0) (N:=some 17) (v:=?_) (a':=?_) #[true,false,false,false,false,false,false,false,false,false] rfl rfl (Ya HT_.out (by kernel_rfl)) (fun _ _ _ h=>h) (Or.inl ⟨by rfl,?_⟩) ?_ ?_
        rotate_left
        ·intro w';go_simp
         with_reducible rfl
        rotate_left
        ·simp only [Act.put,List.setIfInBounds_toArray,List.set_cons_zero,List.set_cons_succ,Xu,Xt];rfl
        refine Yf (i:=1) (N:=some 18) (v:=?_) (a':=?_) #[true,true,false,false,false,false,false,false,false,false] rfl rfl (Ya HT_.out (by kernel_rfl)) (fun _ _ _ h=>h) (Or.inl ⟨by rfl,?_⟩) ?_ ?_
        rotate_left
        ·intro w';go_simp
         with_reducible rfl
        rotate_left
        ·simp only [Act.put,List.setIfInBounds_toArray,List.set_cons_zero,List.set_cons_succ,Xu,Xt];rfl
        refine Yf (i:=2) (N:=some 19) (v:=?_) (a':=?_) #[true,true,true,false,false,false,false,false,false,false] rfl rfl (Ya HT_.out (by kernel_rfl)) (fun _ _ _ h=>h) (Or.inl ⟨by rfl,?_⟩) ?_ ?_
        rotate_left
        ·intro w';go_simp
         with_reducible rfl
        rotate_left
        ·simp only [Act.put,List.setIfInBounds_toArray,List.set_cons_zero,List.set_cons_succ,Xu,Xt];rfl
        refine Yf (i:=4) (N:=some 21) (v:=?_) (a':=?_) #[true,true,true,false,true,false,false,false,false,false] rfl rfl (Ya HT_.out (by kernel_rfl)) (fun _ _ _ h=>h) (Or.inl ⟨by rfl,?_⟩) ?_ ?_
        rotate_left
        ·intro w';go_simp
         with_reducible rfl
        rotate_left
        ·simp only [Act.put,List.setIfInBounds_toArray,List.set_cons_zero,List.set_cons_succ,Xu,Xt];rfl
        refine Yf (i:=5) (N:=some 22) (v:=?_) (a':=?_) #[true,true,true,false,true,true,false,false,false,false] rfl rfl (Ya HT_.out (by kernel_rfl)) (fun _ _ _ h=>h) (Or.inl ⟨by rfl,?_⟩) ?_ ?_
        rotate_left
        ·intro w';go_simp
         with_reducible rfl
        rotate_left
        ·simp only [Act.put,List.setIfInBounds_toArray,List.set_cons_zero,List.set_cons_succ,Xu,Xt];rfl
        refine Yf (i:=6) (N:=some 23) (v:=?_) (a':=?_) #[true,true,true,false,true,true,true,false,false,false] rfl rfl (Ya HT_.out (by kernel_rfl)) (fun _ _ _ h=>h) (Or.inl ⟨by rfl,?_⟩) ?_ ?_
        rotate_left
        ·intro w';go_simp
         with_reducible rfl
        rotate_left
        ·simp only [Act.put,List.setIfInBounds_toArray,List.set_cons_zero,List.set_cons_succ,Xu,Xt];rfl
        refine Zw (i:=3) (N:=some 20) (v:=?_) (a':=?_) #[true,true,true,true,true,true,true,false,false,false] rfl rfl (Zb HT_.out HW_.out (by kernel_rfl)) (fun _ _ _ h=>h) (Or.inl ⟨by rfl,?_⟩) hHeld ?_ ?_
        rotate_left
        ·rintro w' ⟨s0,s1,s2,s3⟩
         go_simp
         with_reducible rfl
        rotate_left
        ·simp only [Act.put,List.setIfInBounds_toArray,List.set_cons_zero,List.set_cons_succ,Xu,Xt];rfl
        refine Zw (i:=7) (N:=some 24) (v:=?_) (a':=?_) #[true,true,true,true,true,true,true,true,false,false] rfl rfl (Zb HT_.out HW_.out (by kernel_rfl)) (fun _ _ _ h=>h) (Or.inl ⟨by rfl,?_⟩) hHeld ?_ ?_
        rotate_left
        ·rintro w' ⟨s0,s1,s2,s3⟩
         go_simp
         with_reducible rfl
        rotate_left
        ·simp only [Act.put,List.setIfInBounds_toArray,List.set_cons_zero,List.set_cons_succ,Xu,Xt];rfl
        refine one_ (i:=8) (N:=some 25) #[true,true,true,true,true,true,true,true,true,false] rfl rfl (Ue HT_.out (by kernel_rfl)) (by decide) (fun K hK=>?_)
        refine goes_ Tryd.func31 (by kernel_rfl) rfl #[.agg #[.int .i64 ((Yx l0 x5_1).f0),.int .i64 ((Yx l0 x5_1).f1)],.agg #[.int .i64 ((Yx l1 x5_1).f0),.int .i64 ((Yx l1 x5_1).f1)]] (by rfl) rfl rfl ga_ ?_
        with_reducible refine (laws_eqSay.calls ((Yx l0 x5_1).f0) ((Yx l0 x5_1).f1) ((Yx l1 x5_1).f0) ((Yx l1 x5_1).f1) false _ A7.out).mono ?_
        rintro e w12 ⟨rfl,hb⟩
        refine ⟨_,rfl,?_⟩
        have n0_:=Xa.mk (Xc (bl_ HB) hb);clear HB;have HB:=n0_;clear n0_
        (try clear hb)
        (try clear hb2)
        (try clear hk)
        (try clear hi)
        refine hK.out _ _ ⟨((HB.out.cell (World.block_lt_of_cell? w _ hw298_0)).trans hw298_0),((HB.out.cell (World.block_lt_of_cell? w _ hw298_1)).trans hw298_1),((HB.out.cell (World.block_lt_of_cell? w _ hw299_0)).trans hw299_0),((HB.out.cell (World.block_lt_of_cell? w _ hw299_1)).trans hw299_1)⟩ (fun hHeld=>?_)
        clear hK K;refine norm_ (a':=?_) ?_ ?_
        rotate_left
        ·show Act.put _ (some 25) _=_
         simp only [Act.put,List.setIfInBounds_toArray,List.set_cons_zero,List.set_cons_succ,Xu,Xt];rfl
        refine Yf (i:=9) (N:=some 26) (v:=?_) (a':=?_) #[true,true,true,true,true,true,true,true,true,true] rfl rfl (Ya HT_.out (by kernel_rfl)) (fun _ _ _ h=>h) (Or.inl ⟨by rfl,?_⟩) ?_ ?_
        rotate_left
        ·intro w';go_simp
         with_reducible rfl
        rotate_left
        ·simp only [Act.put,List.setIfInBounds_toArray,List.set_cons_zero,List.set_cons_succ,Xu,Xt];rfl
        refine done_ (done_of HT_.out (by kernel_rfl)) ?_
        try go_wp2
        go_ret
        exact ⟨rf_,bl_ HB⟩
      ·rw [if_neg c6] at H;exact absurd H (by simp)
     ·rw [if_neg c5] at H;exact absurd H (by simp)
    ·rw [if_neg c4] at H;have c4b0:decide (x5_1<(l0.length:Int))=false:=decide_eq_false c4;clear c4;obtain rfl:=Option.some.inj H;go_wp2
     go_ret
     exact ⟨rf_,bl_ HB⟩
 ·rw [if_neg c3] at H;have c3b0:((l0.length:Int) == (l1.length:Int))=false:=beq_eq_false_iff_ne.mpr c3;have c3b1:((l0.length:Int) != (l1.length:Int))=true:=bne_iff_ne.mpr c3
  have c3b2:(l0.length == l1.length)=false:=by first|simpa using c3|(simp at c3 ⊢;omega)
  obtain rfl:=Option.some.inj H
  go_enter Tryd.func24,Tryd.ntmps24
  go_wp2
  go_ret
  exact ⟨rf_,bl_ HB⟩
end Go.Proofs.YtpcfebhpapdkcaaDoor.GWorld
