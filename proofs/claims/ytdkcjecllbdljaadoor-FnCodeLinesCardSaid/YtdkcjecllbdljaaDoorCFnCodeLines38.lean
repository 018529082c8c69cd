import Derived.Test.YtdkcjecllbdljaaDoorCFnCodeLines22
import Derived.Test.YtdkcjecllbdljaaDoorCFnCodeLines34
import Derived.Test.YtdkcjecllbdljaaDoorCFnCodeLines37
namespace Go.Proofs.YtdkcjecllbdljaaDoor.GCode
open Go.RowKit Go.Proofs.YtdkcjecllbdljaaDoorW.PrintWords Go.Proofs.YtdkcjecllbdljaaDoorW.PrintLast Go.Proofs.YtdkcjecllbdljaaDoorW.PrintMore
attribute [local go_sem] Zy Ua Uo Uq Zp Zq Zz Ub
set_option linter.unusedVariables false
set_option linter.unusedSimpArgs false
mutual
def Za.j0:Nat→List (S36)→Bool→Option (Bool)
 |0,_,_=>none
 |k+1,x0,x12=>if x12=true then (some false) else (Za.l0 k x0 x0 (x0.length:Int) 0)
def Za.l0:Nat→List (S36)→List (S36)→Int→Int→Option (Bool)
 |0,_,_,_,_=>none
 |k+1,x0,x13,x14,x15=>if x15<x14 then (if 0≤x15 then (if x15<(x13.length:Int) then ((impl_insOk.f ((Xb x13 x15).f0) ((Xb x13 x15).f1) ((Xb x13 x15).f2) ((Xb x13 x15).f3) (x0.length:Int)).bind fun t259=>(if t259=true then (if ((((Xb x13 x15).f0) == 13) != (x15 == (wrap64 ((x0.length:Int) - 1))))=true then (some false) else (Za.l0 k x0 x13 x14 (wrap64 (x15+1)))) else (some false))) else (none)) else (none)) else ((Xw.f k x0).bind fun t260=>(some t260))
end
def Za.f (k:Nat) (l0:List (S36)):Option (Bool):=if (l0.length:Int)<1 then (Za.j0 k l0 true) else (Za.j0 k l0 (decide ((l0.length:Int) > 60)))
set_option maxHeartbeats 8000000 in
set_option maxRecDepth 100000 in
theorem Za.calls (k:Nat) (A0:Option Addr) (c0:Nat) (l0:List (S36)) (r:Bool) (w:World) (hr0:Kd.C k36 w A0 l0.length l0) (hc0:l0.length≤c0) (h:Za.f k l0=some r) :
  Calls Tryd.prog 16 #[.slice A0 l0.length c0] w fun e w'=>e=.returned (.bool r)∧Below w.heap.size w w':=by
 have hu36:=Tryd.underlying36;have HR0:=Xa.mk hr0;have HC0:=Xa.mk hc0;clear hr0 hc0;have HB:=Xa.mk (Below.refl w.heap.size w);have H:(if (l0.length:Int)<1 then (Za.j0 k l0 true) else (Za.j0 k l0 (decide ((l0.length:Int) > 60))))=some r:=h;clear h;have HC2:=Xa.mk H;clear H
 go_enter Tryd.func16,Tryd.ntmps16
 go_upto_region 1 with (fail)
 go_cut [12] (fun v12 wc=>∃ (kq:Nat) (x12_1:Bool),v12=.bool x12_1∧Xa (Za.j0 kq l0 x12_1=some r)∧Xa (kq≤k)∧Xa (Below w.heap.size w wc))
 case first=>
  have H:=HC2.out;clear HC2;by_cases c3:(l0.length:Int)<1
  ·rw [if_pos c3] at H;have c3b0:decide ((l0.length:Int)<1)=true:=decide_eq_true c3;have c3b1:decide (l0.length<1)=true:=decide_eq_true (by omega);clear c3
   (first|rw [c3b0]|(simp only [Xt,Xu];rw [c3b0])|skip)
   have H':=Xa.mk H;clear H;go_wp2
   go_meet
   case rel=>exact ⟨_,(true),(by first|rfl|(simp;done)|(simp [*];done)),H',⟨by first|omega|exact Nat.le_refl _⟩,⟨bl_ HB⟩⟩
  ·rw [if_neg c3] at H;have c3b0:decide ((l0.length:Int)<1)=false:=decide_eq_false c3;have c3b1:decide (l0.length<1)=false:=decide_eq_false (by omega);clear c3
   (first|rw [c3b0]|(simp only [Xt,Xu];rw [c3b0])|skip)
   have H':=Xa.mk H;clear H;go_wp2
   go_meet
   case rel=>exact ⟨_,(decide ((l0.length:Int) > 60)),(by first|rfl|(simp;done)|(simp [*];done)),H',⟨by first|omega|exact Nat.le_refl _⟩,⟨bl_ HB⟩⟩
 case rest=>
  clear HC2
  try clear c1
  try clear p2
  try clear c3
  try clear c3b0
  try clear c3b1
  obtain ⟨kq,x12_1,rfl,HA,HJ1,HB⟩:=hcut
  cases kq with
  |zero=>exact absurd HA.out (by simp [Za.j0])
  |succ kj1=>
   have H:=HA.out;clear HA;simp only [Za.j0] at H;by_cases c4:x12_1=true
   ·subst c4
    have H1:(some false)=some r:=by rw [if_pos rfl] at H;exact H
    clear H;have H:=H1;clear H1;obtain rfl:=Option.some.inj H;go_wp2
    go_ret
    exact ⟨rf_,bl_ HB⟩
   ·replace c4:=Bool.eq_false_iff.mpr c4;subst c4
    have H1:(Za.l0 kj1 l0 l0 (l0.length:Int) 0)=some r:=by rw [if_neg (show ¬ (false=true) by decide)] at H;exact H
    clear H;have H:=H1;clear H1;have H':=Xa.mk H;clear H;go_wp2
    go_loopg [15] kj1 (fun kq v15 w'=>∃ (x15_2:Int),v15=.int .i64 x15_2∧Xa (Za.l0 kq l0 l0 (l0.length:Int) x15_2=some r)∧Xa (kq≤kj1)∧Xa (Below w.heap.size w w'))
    case atStart=>exact ⟨(0),(by first|rfl|(simp;done)|(simp [*];done)),H',⟨Nat.le_refl _⟩,⟨bl_ HB⟩⟩
    case round=>
     clear H'
     try clear c1
     try clear p2
     try clear c3
     try clear c3b0
     try clear c3b1
     try clear c4
     try clear p2
     obtain ⟨x15_2,rfl,HA,HK2,HB⟩:=hrel
     cases gk with
     |zero=>exact absurd HA.out (by simp [Za.l0])
     |succ k2=>
      have H:=HA.out;clear HA;simp only [Za.l0] at H;by_cases c5:x15_2<(l0.length:Int)
      ·rw [if_pos c5] at H;have c5b0:decide (x15_2<(l0.length:Int))=true:=decide_eq_true c5;clear c5;by_cases c6:0≤x15_2
       ·rw [if_pos c6] at H;have c6b0:decide (0≤x15_2)=true:=decide_eq_true c6;clear c6;by_cases c7:x15_2<(l0.length:Int)
        ·rw [if_pos c7] at H;have c7b0:decide (x15_2<(l0.length:Int))=true:=decide_eq_true c7;clear c7;replace H:=Option.bind_eq_some_iff.mp H;obtain ⟨t259,A80,H⟩:=H;replace H:(if t259=true then (if ((((Xb l0 x15_2).f0) == 13) != (x15_2 == (wrap64 ((l0.length:Int) - 1))))=true then (some false) else (Za.l0 k2 l0 l0 (l0.length:Int) (wrap64 (x15_2+1)))) else (some false))=some r:=H;have A8:=Xa.mk A80;clear A80;by_cases c9:t259=true
         ·subst c9
          have H1:(if ((((Xb l0 x15_2).f0) == 13) != (x15_2 == (wrap64 ((l0.length:Int) - 1))))=true then (some false) else (Za.l0 k2 l0 l0 (l0.length:Int) (wrap64 (x15_2+1))))=some r:=by rw [if_pos rfl] at H;exact H
          clear H;have H:=H1;clear H1;by_cases c10:((((Xb l0 x15_2).f0) == 13) != (x15_2 == (wrap64 ((l0.length:Int) - 1))))=true
          ·rw [if_pos c10] at H;have c10b0:((((Xb l0 x15_2).f0) == 13) != (x15_2 == (wrap64 ((l0.length:Int) - 1))))=true:=c10
           (try (have c10b1:decide ((((Xb l0 x15_2).f0) == 13)=(x15_2 == (wrap64 ((l0.length:Int) - 1))))=false:=by simpa using c10))
           (try (have c10b2:((((Xb l0 x15_2).f0) == 13) == (x15_2 == (wrap64 ((l0.length:Int) - 1))))=false:=by simpa using c10))
           (try (have c10b3:¬ ((((Xb l0 x15_2).f0) == 13)=(x15_2 == (wrap64 ((l0.length:Int) - 1)))):=by simpa using c10))
           clear c10;obtain rfl:=Option.some.inj H;have p257:0≤(x15_2:Int):=of_decide_eq_true (by first|(with_reducible assumption)|assumption);have q257:x15_2<(l0.length:Int):=of_decide_eq_true (by first|(with_reducible assumption)|assumption);obtain ⟨ad257,e257,hx257_0,hx257_1,hx257_2,hx257_3⟩:=at_T36 HR0.out x15_2 p257 q257;cases e257
           replace hx257_0:=(HB.out.cell (World.block_lt_of_cell? w _ hx257_0)).trans hx257_0;replace hx257_1:=(HB.out.cell (World.block_lt_of_cell? w _ hx257_1)).trans hx257_1;replace hx257_2:=(HB.out.cell (World.block_lt_of_cell? w _ hx257_2)).trans hx257_2;replace hx257_3:=(HB.out.cell (World.block_lt_of_cell? w _ hx257_3)).trans hx257_3;replace p257:=eq_true p257;replace q257:=eq_true q257;go_wp2_with (first|((with_reducible refine Xq (N:=4) rfl ?_);(try (refine gate_guard (by rfl) ?_;dsimp only));refine Yq ?hg (N:=4) ?hd (cs:=#[.int .i64 0,.int .i64 0,.int .i64 0,.int .i64 0]) (t:=36) ?hr ?_;(case hd=>rfl);(case hg=>rfl);(case hr=>first|(go_simp;done)|(go_simp;rfl));intro gb258 hg w11 hbox hb;have n0_:=Xa.mk (Xc (bl_ HB) hb);have n1_:=Xa.mk (hbox);have n2_:=Xa.mk ((by rw [hg];exact (Xd (bl_ HB)):w.heap.size≤gb258));have n3_:=Xa.mk ((by rw [hg];exact (Xd (bl_ HB)):w.heap.size≤gb258));clear HB;have HB:=n0_;have BK258:=n1_;have GW258:=n2_;have GE258:=n3_;clear n0_ n1_ n2_ n3_;clear hb hbox hg;obtain ⟨hcz12_0,hcz12_1,hcz12_2,hcz12_3⟩:=Um BK258.out;obtain ⟨hfz12_0,hfz12_1,hfz12_2,hfz12_3⟩:=Un BK258.out)|((with_reducible refine Xj (f:=22) rfl ?_);refine Yu (some 23) rfl rfl Tryd.func22 (by kernel_rfl) rfl #[.agg #[.int .i64 ((Xb l0 x15_2).f0),.int .i64 ((Xb l0 x15_2).f1),.int .i64 ((Xb l0 x15_2).f2),.int .i64 ((Xb l0 x15_2).f3)],.int .i64 (l0.length:Int)] rfl ga_ ?_;(with_reducible refine (impl_insOk.calls ((Xb l0 x15_2).f0) ((Xb l0 x15_2).f1) ((Xb l0 x15_2).f2) ((Xb l0 x15_2).f3) (l0.length:Int) true _ A8.out).mono ?_);rintro e w13 ⟨rfl,hb⟩;refine ⟨_,rfl,?_⟩;have n0_:=Xa.mk (Ym (g:=gb258) (o:=.cells #[.int .i64 ((Xb l0 x15_2).f0),.int .i64 ((Xb l0 x15_2).f1),.int .i64 ((Xb l0 x15_2).f2),.int .i64 ((Xb l0 x15_2).f3)] 36 (0,0)) (by (with_reducible repeat (first|refine Xo ?_ _|refine Xx ?_|refine Xn ?_ _));refine Yl (cs:=#[.int .i64 ((Xb l0 x15_2).f0),.int .i64 ((Xb l0 x15_2).f1),.int .i64 ((Xb l0 x15_2).f2),.int .i64 0]) ?_ 3 _ rfl;(with_reducible repeat (first|refine Xo ?_ _|refine Xx ?_|refine Xn ?_ _));refine Yl (cs:=#[.int .i64 ((Xb l0 x15_2).f0),.int .i64 ((Xb l0 x15_2).f1),.int .i64 0,.int .i64 0]) ?_ 2 _ rfl;(with_reducible repeat (first|refine Xo ?_ _|refine Xx ?_|refine Xn ?_ _));refine Yl (cs:=#[.int .i64 ((Xb l0 x15_2).f0),.int .i64 0,.int .i64 0,.int .i64 0]) ?_ 1 _ rfl;(with_reducible repeat (first|refine Xo ?_ _|refine Xx ?_|refine Xn ?_ _));refine Yl (cs:=#[.int .i64 0,.int .i64 0,.int .i64 0,.int .i64 0]) ?_ 0 _ rfl;(with_reducible repeat (first|refine Xo ?_ _|refine Xx ?_|refine Xn ?_ _));exact BK258.out) hb);have n1_:=Xa.mk (Xc (bl_ HB) hb);clear BK258;clear HB;have BK258:=n0_;have HB:=n1_;clear n0_ n1_;(try clear hb);(try clear hb2);(try clear hk);(try clear hi);obtain ⟨hcz14_0,hcz14_1,hcz14_2,hcz14_3⟩:=Um BK258.out;obtain ⟨hfz14_0,hfz14_1,hfz14_2,hfz14_3⟩:=Un BK258.out))
           go_ret
           exact ⟨rf_,bl_ HB⟩
          ·rw [if_neg c10] at H
           have c10b0:((((Xb l0 x15_2).f0) == 13) != (x15_2 == (wrap64 ((l0.length:Int) - 1))))=false:=by simpa using c10
           (try (have c10b1:decide ((((Xb l0 x15_2).f0) == 13)=(x15_2 == (wrap64 ((l0.length:Int) - 1))))=true:=by simpa using c10))
           (try (have c10b2:((((Xb l0 x15_2).f0) == 13) == (x15_2 == (wrap64 ((l0.length:Int) - 1))))=true:=by simpa using c10))
           clear c10;have H':=Xa.mk H;clear H;have p257:0≤(x15_2:Int):=of_decide_eq_true (by first|(with_reducible assumption)|assumption);have q257:x15_2<(l0.length:Int):=of_decide_eq_true (by first|(with_reducible assumption)|assumption);obtain ⟨ad257,e257,hx257_0,hx257_1,hx257_2,hx257_3⟩:=at_T36 HR0.out x15_2 p257 q257;cases e257
           replace hx257_0:=(HB.out.cell (World.block_lt_of_cell? w _ hx257_0)).trans hx257_0;replace hx257_1:=(HB.out.cell (World.block_lt_of_cell? w _ hx257_1)).trans hx257_1;replace hx257_2:=(HB.out.cell (World.block_lt_of_cell? w _ hx257_2)).trans hx257_2;replace hx257_3:=(HB.out.cell (World.block_lt_of_cell? w _ hx257_3)).trans hx257_3;replace p257:=eq_true p257;replace q257:=eq_true q257;go_wp2_with (first|((with_reducible refine Xq (N:=4) rfl ?_);(try (refine gate_guard (by rfl) ?_;dsimp only));refine Yq ?hg (N:=4) ?hd (cs:=#[.int .i64 0,.int .i64 0,.int .i64 0,.int .i64 0]) (t:=36) ?hr ?_;(case hd=>rfl);(case hg=>rfl);(case hr=>first|(go_simp;done)|(go_simp;rfl));intro gb258 hg w15 hbox hb;have n0_:=Xa.mk (Xc (bl_ HB) hb);have n1_:=Xa.mk (hbox);have n2_:=Xa.mk ((by rw [hg];exact (Xd (bl_ HB)):w.heap.size≤gb258));have n3_:=Xa.mk ((by rw [hg];exact (Xd (bl_ HB)):w.heap.size≤gb258));clear HB;have HB:=n0_;have BK258:=n1_;have GW258:=n2_;have GE258:=n3_;clear n0_ n1_ n2_ n3_;clear hb hbox hg;obtain ⟨hcz16_0,hcz16_1,hcz16_2,hcz16_3⟩:=Um BK258.out;obtain ⟨hfz16_0,hfz16_1,hfz16_2,hfz16_3⟩:=Un BK258.out)|((with_reducible refine Xj (f:=22) rfl ?_);refine Yu (some 23) rfl rfl Tryd.func22 (by kernel_rfl) rfl #[.agg #[.int .i64 ((Xb l0 x15_2).f0),.int .i64 ((Xb l0 x15_2).f1),.int .i64 ((Xb l0 x15_2).f2),.int .i64 ((Xb l0 x15_2).f3)],.int .i64 (l0.length:Int)] rfl ga_ ?_;(with_reducible refine (impl_insOk.calls ((Xb l0 x15_2).f0) ((Xb l0 x15_2).f1) ((Xb l0 x15_2).f2) ((Xb l0 x15_2).f3) (l0.length:Int) true _ A8.out).mono ?_);rintro e w17 ⟨rfl,hb⟩;refine ⟨_,rfl,?_⟩;have n0_:=Xa.mk (Ym (g:=gb258) (o:=.cells #[.int .i64 ((Xb l0 x15_2).f0),.int .i64 ((Xb l0 x15_2).f1),.int .i64 ((Xb l0 x15_2).f2),.int .i64 ((Xb l0 x15_2).f3)] 36 (0,0)) (by (with_reducible repeat (first|refine Xo ?_ _|refine Xx ?_|refine Xn ?_ _));refine Yl (cs:=#[.int .i64 ((Xb l0 x15_2).f0),.int .i64 ((Xb l0 x15_2).f1),.int .i64 ((Xb l0 x15_2).f2),.int .i64 0]) ?_ 3 _ rfl;(with_reducible repeat (first|refine Xo ?_ _|refine Xx ?_|refine Xn ?_ _));refine Yl (cs:=#[.int .i64 ((Xb l0 x15_2).f0),.int .i64 ((Xb l0 x15_2).f1),.int .i64 0,.int .i64 0]) ?_ 2 _ rfl;(with_reducible repeat (first|refine Xo ?_ _|refine Xx ?_|refine Xn ?_ _));refine Yl (cs:=#[.int .i64 ((Xb l0 x15_2).f0),.int .i64 0,.int .i64 0,.int .i64 0]) ?_ 1 _ rfl;(with_reducible repeat (first|refine Xo ?_ _|refine Xx ?_|refine Xn ?_ _));refine Yl (cs:=#[.int .i64 0,.int .i64 0,.int .i64 0,.int .i64 0]) ?_ 0 _ rfl;(with_reducible repeat (first|refine Xo ?_ _|refine Xx ?_|refine Xn ?_ _));exact BK258.out) hb);have n1_:=Xa.mk (Xc (bl_ HB) hb);clear BK258;clear HB;have BK258:=n0_;have HB:=n1_;clear n0_ n1_;(try clear hb);(try clear hb2);(try clear hk);(try clear hi);obtain ⟨hcz18_0,hcz18_1,hcz18_2,hcz18_3⟩:=Um BK258.out;obtain ⟨hfz18_0,hfz18_1,hfz18_2,hfz18_3⟩:=Un BK258.out))
           go_roundg k2
           case measure=>have:=HJ1.out;have:=HK2.out;omega
           case rel=>exact ⟨(wrap64 (x15_2+1)),(by first|rfl|(simp;done)|(simp [*];done)),H',⟨by have:=HJ1.out;have:=HK2.out;omega⟩,⟨bl_ HB⟩⟩
         ·replace c9:=Bool.eq_false_iff.mpr c9;subst c9
          have H1:(some false)=some r:=by rw [if_neg (show ¬ (false=true) by decide)] at H;exact H
          clear H;have H:=H1;clear H1;obtain rfl:=Option.some.inj H;have p257:0≤(x15_2:Int):=of_decide_eq_true (by first|(with_reducible assumption)|assumption);have q257:x15_2<(l0.length:Int):=of_decide_eq_true (by first|(with_reducible assumption)|assumption);obtain ⟨ad257,e257,hx257_0,hx257_1,hx257_2,hx257_3⟩:=at_T36 HR0.out x15_2 p257 q257;cases e257
          replace hx257_0:=(HB.out.cell (World.block_lt_of_cell? w _ hx257_0)).trans hx257_0;replace hx257_1:=(HB.out.cell (World.block_lt_of_cell? w _ hx257_1)).trans hx257_1;replace hx257_2:=(HB.out.cell (World.block_lt_of_cell? w _ hx257_2)).trans hx257_2;replace hx257_3:=(HB.out.cell (World.block_lt_of_cell? w _ hx257_3)).trans hx257_3;replace p257:=eq_true p257;replace q257:=eq_true q257;go_wp2_with (first|((with_reducible refine Xq (N:=4) rfl ?_);(try (refine gate_guard (by rfl) ?_;dsimp only));refine Yq ?hg (N:=4) ?hd (cs:=#[.int .i64 0,.int .i64 0,.int .i64 0,.int .i64 0]) (t:=36) ?hr ?_;(case hd=>rfl);(case hg=>rfl);(case hr=>first|(go_simp;done)|(go_simp;rfl));intro gb258 hg w19 hbox hb;have n0_:=Xa.mk (Xc (bl_ HB) hb);have n1_:=Xa.mk (hbox);have n2_:=Xa.mk ((by rw [hg];exact (Xd (bl_ HB)):w.heap.size≤gb258));have n3_:=Xa.mk ((by rw [hg];exact (Xd (bl_ HB)):w.heap.size≤gb258));clear HB;have HB:=n0_;have BK258:=n1_;have GW258:=n2_;have GE258:=n3_;clear n0_ n1_ n2_ n3_;clear hb hbox hg;obtain ⟨hcz20_0,hcz20_1,hcz20_2,hcz20_3⟩:=Um BK258.out;obtain ⟨hfz20_0,hfz20_1,hfz20_2,hfz20_3⟩:=Un BK258.out)|((with_reducible refine Xj (f:=22) rfl ?_);refine Yu (some 23) rfl rfl Tryd.func22 (by kernel_rfl) rfl #[.agg #[.int .i64 ((Xb l0 x15_2).f0),.int .i64 ((Xb l0 x15_2).f1),.int .i64 ((Xb l0 x15_2).f2),.int .i64 ((Xb l0 x15_2).f3)],.int .i64 (l0.length:Int)] rfl ga_ ?_;(with_reducible refine (impl_insOk.calls ((Xb l0 x15_2).f0) ((Xb l0 x15_2).f1) ((Xb l0 x15_2).f2) ((Xb l0 x15_2).f3) (l0.length:Int) false _ A8.out).mono ?_);rintro e w21 ⟨rfl,hb⟩;refine ⟨_,rfl,?_⟩;have n0_:=Xa.mk (Ym (g:=gb258) (o:=.cells #[.int .i64 ((Xb l0 x15_2).f0),.int .i64 ((Xb l0 x15_2).f1),.int .i64 ((Xb l0 x15_2).f2),.int .i64 ((Xb l0 x15_2).f3)] 36 (0,0)) (by (with_reducible repeat (first|refine Xo ?_ _|refine Xx ?_|refine Xn ?_ _));refine Yl (cs:=#[.int .i64 ((Xb l0 x15_2).f0),.int .i64 ((Xb l0 x15_2).f1),.int .i64 ((Xb l0 x15_2).f2),.int .i64 0]) ?_ 3 _ rfl;(with_reducible repeat (first|refine Xo ?_ _|refine Xx ?_|refine Xn ?_ _));refine Yl (cs:=#[.int .i64 ((Xb l0 x15_2).f0),.int .i64 ((Xb l0 x15_2).f1),.int .i64 0,.int .i64 0]) ?_ 2 _ rfl;(with_reducible repeat (first|refine Xo ?_ _|refine Xx ?_|refine Xn ?_ _));refine Yl (cs:=#[.int .i64 ((Xb l0 x15_2).f0),.int .i64 0,.int .i64 0,.int .i64 0]) ?_ 1 _ rfl;(with_reducible repeat (first|refine Xo ?_ _|refine Xx ?_|refine Xn ?_ _));refine Yl (cs:=#[.int .i64 0,.int .i64 0,.int .i64 0,.int .i64 0]) ?_ 0 _ rfl;(with_reducible repeat (first|refine Xo ?_ _|refine Xx ?_|refine Xn ?_ _));exact BK258.out) hb);have n1_:=Xa.mk (Xc (bl_ HB) hb);clear BK258;clear HB;have BK258:=n0_;have HB:=n1_;clear n0_ n1_;(try clear hb);(try clear hb2);(try clear hk);(try clear hi)))
          go_ret
          exact ⟨rf_,bl_ HB⟩
        ·rw [if_neg c7] at H;exact absurd H (by simp)
       ·rw [if_neg c6] at H;exact absurd H (by simp)
      ·rw [if_neg c5] at H;have c5b0:decide (x15_2<(l0.length:Int))=false:=decide_eq_false c5;clear c5;replace H:=Option.bind_eq_some_iff.mp H;obtain ⟨t260,A220,H⟩:=H;replace H:(some t260)=some r:=H;have A22:=Xa.mk A220;clear A220;obtain rfl:=Option.some.inj H;go_wp2_with (first|((with_reducible refine Xj (f:=23) rfl ?_);refine Yu (some 38) rfl rfl Tryd.func23 (by kernel_rfl) rfl #[.slice A0 l0.length c0] rfl ga_ ?_;(with_reducible refine (Xw.calls k2 _ _ l0 t260 _ ?side1 ?side2 A22.out).mono ?_);(case side1=>repeat (first|exact (Kd.Zl HR0.out HB.out)|(with_reducible refine Kd.Yc ?_ _)|(with_reducible refine Kd.Yd ?_ _)|(with_reducible refine Kd.Yo ?_)));(case side2=>exact HC0.out);rintro e w23 ⟨rfl,hb⟩;refine ⟨_,rfl,?_⟩;have n0_:=Xa.mk (Xc (bl_ HB) hb);clear HB;have HB:=n0_;clear n0_;(try clear hb);(try clear hb2);(try clear hk);(try clear hi)))
       go_ret
       exact ⟨rf_,bl_ HB⟩
end Go.Proofs.YtdkcjecllbdljaaDoor.GCode
