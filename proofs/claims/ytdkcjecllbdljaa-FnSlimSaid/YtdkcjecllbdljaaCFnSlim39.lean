import Derived.Test.YtdkcjecllbdljaaCFnSlim21
import Derived.Test.YtdkcjecllbdljaaCFnSlim35
import Derived.Test.YtdkcjecllbdljaaCFnSlim38
namespace Go.Proofs.Ytdkcjecllbdljaa.GSlim
open Go.RowKit Go.Proofs.YtdkcjecllbdljaaW.PrintWords Go.Proofs.YtdkcjecllbdljaaW.PrintLast Go.Proofs.YtdkcjecllbdljaaW.PrintMore
attribute [local go_sem] Zv Zx Un Uo Zm Zn Zw Zy
set_option linter.unusedVariables false
set_option linter.unusedSimpArgs false
mutual
def Yo.j0:Nat→List (S31)→Bool→Option (Bool)
 |0,_,_=>none
 |k+1,x0,x12=>if x12=true then (some false) else (Yo.l0 k x0 x0 (x0.length:Int) 0)
def Yo.l0:Nat→List (S31)→List (S31)→Int→Int→Option (Bool)
 |0,_,_,_,_=>none
 |k+1,x0,x13,x14,x15=>if x15<x14 then (if 0≤x15 then (if x15<(x13.length:Int) then ((impl_insOk.f ((Xb x13 x15).f0) ((Xb x13 x15).f1) ((Xb x13 x15).f2) ((Xb x13 x15).f3) (x0.length:Int)).bind fun t472=>(if t472=true then (if ((((Xb x13 x15).f0) == 13) != (x15 == (wrap64 ((x0.length:Int) - 1))))=true then (some false) else (Yo.l0 k x0 x13 x14 (wrap64 (x15+1)))) else (some false))) else (none)) else (none)) else ((Ya.f k x0).bind fun t473=>(some t473))
end
def Yo.f (k:Nat) (l0:List (S31)):Option (Bool):=if (l0.length:Int)<1 then (Yo.j0 k l0 true) else (Yo.j0 k l0 (decide ((l0.length:Int) > 60)))
set_option maxHeartbeats 8000000 in
set_option maxRecDepth 100000 in
theorem Yo.calls (k:Nat) (A0:Option Addr) (c0:Nat) (l0:List (S31)) (r:Bool) (w:World) (hr0:Kd.C k31 w A0 l0.length l0) (hc0:l0.length≤c0) (h:Yo.f k l0=some r) :
  Calls Try.prog 12 #[.slice A0 l0.length c0] w fun e w'=>e=.returned (.bool r)∧Below w.heap.size w w':=by
 have hu31:=Try.underlying31;have HR0:=Xa.mk hr0;have HC0:=Xa.mk hc0;clear hr0 hc0;have HB:=Xa.mk (Below.refl w.heap.size w);have H:(if (l0.length:Int)<1 then (Yo.j0 k l0 true) else (Yo.j0 k l0 (decide ((l0.length:Int) > 60))))=some r:=h;clear h;have HC2:=Xa.mk H;clear H
 go_enter Try.func12,Try.ntmps12
 go_upto_region 1 with (fail)
 go_cut [12] (fun v12 wc=>∃ (kq:Nat) (x12_1:Bool),v12=.bool x12_1∧Xa (Yo.j0 kq l0 x12_1=some r)∧Xa (kq≤k)∧Xa (Below w.heap.size w wc))
 case first=>
  have H:=HC2.out;clear HC2;by_cases c3:(l0.length:Int)<1
  ·rw [if_pos c3] at H;have c3b0:decide ((l0.length:Int)<1)=true:=decide_eq_true c3;have c3b1:decide (l0.length<1)=true:=decide_eq_true (by omega);clear c3
   (first|rw [c3b0]|(simp only [Xy,Xz];rw [c3b0])|skip)
   have H':=Xa.mk H;clear H;go_wp2
   go_meet
   case rel=>exact ⟨_,(true),(by first|rfl|(simp;done)|(simp [*];done)),H',⟨by first|omega|exact Nat.le_refl _⟩,⟨bl_ HB⟩⟩
  ·rw [if_neg c3] at H;have c3b0:decide ((l0.length:Int)<1)=false:=decide_eq_false c3;have c3b1:decide (l0.length<1)=false:=decide_eq_false (by omega);clear c3
   (first|rw [c3b0]|(simp only [Xy,Xz];rw [c3b0])|skip)
   have H':=Xa.mk H;clear H;go_wp2
   go_meet
   case rel=>exact ⟨_,(decide ((l0.length:Int) > 60)),(by first|rfl|(simp;done)|(simp [*];done)),H',⟨by first|omega|exact Nat.le_refl _⟩,⟨bl_ HB⟩⟩
 case rest=>
  clear HC2
  try clear c1
  try clear p2
  try clear c3
  try clear c3b0
  try clear c3b1
  obtain ⟨kq,x12_1,rfl,HA,HJ1,HB⟩:=hcut
  cases kq with
  |zero=>exact absurd HA.out (by simp [Yo.j0])
  |succ kj1=>
   have H:=HA.out;clear HA;simp only [Yo.j0] at H;by_cases c4:x12_1=true
   ·subst c4
    have H1:(some false)=some r:=by rw [if_pos rfl] at H;exact H
    clear H;have H:=H1;clear H1;obtain rfl:=Option.some.inj H;go_wp2
    go_ret
    exact ⟨rf_,bl_ HB⟩
   ·replace c4:=Bool.eq_false_iff.mpr c4;subst c4
    have H1:(Yo.l0 kj1 l0 l0 (l0.length:Int) 0)=some r:=by rw [if_neg (show ¬ (false=true) by decide)] at H;exact H
    clear H;have H:=H1;clear H1;have H':=Xa.mk H;clear H;go_wp2
    go_loopg [15] kj1 (fun kq v15 w'=>∃ (x15_2:Int),v15=.int .i64 x15_2∧Xa (Yo.l0 kq l0 l0 (l0.length:Int) x15_2=some r)∧Xa (kq≤kj1)∧Xa (Below w.heap.size w w'))
    case atStart=>exact ⟨(0),(by first|rfl|(simp;done)|(simp [*];done)),H',⟨Nat.le_refl _⟩,⟨bl_ HB⟩⟩
    case round=>
     clear H'
     try clear c1
     try clear p2
     try clear c3
     try clear c3b0
     try clear c3b1
     try clear c4
     try clear p2
     obtain ⟨x15_2,rfl,HA,HK2,HB⟩:=hrel
     cases gk with
     |zero=>exact absurd HA.out (by simp [Yo.l0])
     |succ k2=>
      have H:=HA.out;clear HA;simp only [Yo.l0] at H;by_cases c5:x15_2<(l0.length:Int)
      ·rw [if_pos c5] at H;have c5b0:decide (x15_2<(l0.length:Int))=true:=decide_eq_true c5;clear c5;by_cases c6:0≤x15_2
       ·rw [if_pos c6] at H;have c6b0:decide (0≤x15_2)=true:=decide_eq_true c6;clear c6;by_cases c7:x15_2<(l0.length:Int)
        ·rw [if_pos c7] at H;have c7b0:decide (x15_2<(l0.length:Int))=true:=decide_eq_true c7;clear c7;replace H:=Option.bind_eq_some_iff.mp H;obtain ⟨t472,A80,H⟩:=H;replace H:(if t472=true then (if ((((Xb l0 x15_2).f0) == 13) != (x15_2 == (wrap64 ((l0.length:Int) - 1))))=true then (some false) else (Yo.l0 k2 l0 l0 (l0.length:Int) (wrap64 (x15_2+1)))) else (some false))=some r:=H;have A8:=Xa.mk A80;clear A80;by_cases c9:t472=true
         ·subst c9
          have H1:(if ((((Xb l0 x15_2).f0) == 13) != (x15_2 == (wrap64 ((l0.length:Int) - 1))))=true then (some false) else (Yo.l0 k2 l0 l0 (l0.length:Int) (wrap64 (x15_2+1))))=some r:=by rw [if_pos rfl] at H;exact H
          clear H;have H:=H1;clear H1;by_cases c10:((((Xb l0 x15_2).f0) == 13) != (x15_2 == (wrap64 ((l0.length:Int) - 1))))=true
          ·rw [if_pos c10] at H;have c10b0:((((Xb l0 x15_2).f0) == 13) != (x15_2 == (wrap64 ((l0.length:Int) - 1))))=true:=c10
           (try (have c10b1:decide ((((Xb l0 x15_2).f0) == 13)=(x15_2 == (wrap64 ((l0.length:Int) - 1))))=false:=by simpa using c10))
           (try (have c10b2:((((Xb l0 x15_2).f0) == 13) == (x15_2 == (wrap64 ((l0.length:Int) - 1))))=false:=by simpa using c10))
           (try (have c10b3:¬ ((((Xb l0 x15_2).f0) == 13)=(x15_2 == (wrap64 ((l0.length:Int) - 1)))):=by simpa using c10))
           clear c10;obtain rfl:=Option.some.inj H;have p470:0≤(x15_2:Int):=of_decide_eq_true (by first|(with_reducible assumption)|assumption);have q470:x15_2<(l0.length:Int):=of_decide_eq_true (by first|(with_reducible assumption)|assumption);obtain ⟨ad470,e470,hx470_0,hx470_1,hx470_2,hx470_3⟩:=Zt HR0.out x15_2 p470 q470;cases e470
           replace hx470_0:=(HB.out.cell (World.block_lt_of_cell? w _ hx470_0)).trans hx470_0;replace hx470_1:=(HB.out.cell (World.block_lt_of_cell? w _ hx470_1)).trans hx470_1;replace hx470_2:=(HB.out.cell (World.block_lt_of_cell? w _ hx470_2)).trans hx470_2;replace hx470_3:=(HB.out.cell (World.block_lt_of_cell? w _ hx470_3)).trans hx470_3;replace p470:=eq_true p470;replace q470:=eq_true q470;go_wp2_with (first|((with_reducible refine Xx (N:=4) rfl ?_);(try (refine gate_guard (by rfl) ?_;dsimp only));refine Yw ?hg (N:=4) ?hd (cs:=#[.int .i64 0,.int .i64 0,.int .i64 0,.int .i64 0]) (t:=31) ?hr ?_;(case hd=>rfl);(case hg=>rfl);(case hr=>first|(go_simp;done)|(go_simp;rfl));intro gb471 hg w11 hbox hb;have n0_:=Xa.mk (Xd (bl_ HB) hb);have n1_:=Xa.mk (hbox);have n2_:=Xa.mk ((by rw [hg];exact (Xc (bl_ HB)):w.heap.size≤gb471));have n3_:=Xa.mk ((by rw [hg];exact (Xc (bl_ HB)):w.heap.size≤gb471));clear HB;have HB:=n0_;have BK471:=n1_;have GW471:=n2_;have GE471:=n3_;clear n0_ n1_ n2_ n3_;clear hb hbox hg;obtain ⟨hcz12_0,hcz12_1,hcz12_2,hcz12_3⟩:=Uu BK471.out;obtain ⟨hfz12_0,hfz12_1,hfz12_2,hfz12_3⟩:=Uy BK471.out)|((with_reducible refine Xf (f:=26) rfl ?_);refine Yf (some 23) rfl rfl Try.func26 (by kernel_rfl) rfl #[.agg #[.int .i64 ((Xb l0 x15_2).f0),.int .i64 ((Xb l0 x15_2).f1),.int .i64 ((Xb l0 x15_2).f2),.int .i64 ((Xb l0 x15_2).f3)],.int .i64 (l0.length:Int)] rfl ga_ ?_;(with_reducible refine (impl_insOk.calls ((Xb l0 x15_2).f0) ((Xb l0 x15_2).f1) ((Xb l0 x15_2).f2) ((Xb l0 x15_2).f3) (l0.length:Int) true _ A8.out).mono ?_);rintro e w13 ⟨rfl,hb⟩;refine ⟨_,rfl,?_⟩;have n0_:=Xa.mk (Zo (g:=gb471) (o:=.cells #[.int .i64 ((Xb l0 x15_2).f0),.int .i64 ((Xb l0 x15_2).f1),.int .i64 ((Xb l0 x15_2).f2),.int .i64 ((Xb l0 x15_2).f3)] 31 (0,0)) (by (with_reducible repeat (first|refine Xj ?_ _|refine Xo ?_|refine Xi ?_ _));refine Ye (cs:=#[.int .i64 ((Xb l0 x15_2).f0),.int .i64 ((Xb l0 x15_2).f1),.int .i64 ((Xb l0 x15_2).f2),.int .i64 0]) ?_ 3 _ rfl;(with_reducible repeat (first|refine Xj ?_ _|refine Xo ?_|refine Xi ?_ _));refine Ye (cs:=#[.int .i64 ((Xb l0 x15_2).f0),.int .i64 ((Xb l0 x15_2).f1),.int .i64 0,.int .i64 0]) ?_ 2 _ rfl;(with_reducible repeat (first|refine Xj ?_ _|refine Xo ?_|refine Xi ?_ _));refine Ye (cs:=#[.int .i64 ((Xb l0 x15_2).f0),.int .i64 0,.int .i64 0,.int .i64 0]) ?_ 1 _ rfl;(with_reducible repeat (first|refine Xj ?_ _|refine Xo ?_|refine Xi ?_ _));refine Ye (cs:=#[.int .i64 0,.int .i64 0,.int .i64 0,.int .i64 0]) ?_ 0 _ rfl;(with_reducible repeat (first|refine Xj ?_ _|refine Xo ?_|refine Xi ?_ _));exact BK471.out) hb);have n1_:=Xa.mk (Xd (bl_ HB) hb);clear BK471;clear HB;have BK471:=n0_;have HB:=n1_;clear n0_ n1_;(try clear hb);(try clear hb2);(try clear hk);(try clear hi);obtain ⟨hcz14_0,hcz14_1,hcz14_2,hcz14_3⟩:=Uu BK471.out;obtain ⟨hfz14_0,hfz14_1,hfz14_2,hfz14_3⟩:=Uy BK471.out))
           go_ret
           exact ⟨rf_,bl_ HB⟩
          ·rw [if_neg c10] at H
           have c10b0:((((Xb l0 x15_2).f0) == 13) != (x15_2 == (wrap64 ((l0.length:Int) - 1))))=false:=by simpa using c10
           (try (have c10b1:decide ((((Xb l0 x15_2).f0) == 13)=(x15_2 == (wrap64 ((l0.length:Int) - 1))))=true:=by simpa using c10))
           (try (have c10b2:((((Xb l0 x15_2).f0) == 13) == (x15_2 == (wrap64 ((l0.length:Int) - 1))))=true:=by simpa using c10))
           clear c10;have H':=Xa.mk H;clear H;have p470:0≤(x15_2:Int):=of_decide_eq_true (by first|(with_reducible assumption)|assumption);have q470:x15_2<(l0.length:Int):=of_decide_eq_true (by first|(with_reducible assumption)|assumption);obtain ⟨ad470,e470,hx470_0,hx470_1,hx470_2,hx470_3⟩:=Zt HR0.out x15_2 p470 q470;cases e470
           replace hx470_0:=(HB.out.cell (World.block_lt_of_cell? w _ hx470_0)).trans hx470_0;replace hx470_1:=(HB.out.cell (World.block_lt_of_cell? w _ hx470_1)).trans hx470_1;replace hx470_2:=(HB.out.cell (World.block_lt_of_cell? w _ hx470_2)).trans hx470_2;replace hx470_3:=(HB.out.cell (World.block_lt_of_cell? w _ hx470_3)).trans hx470_3;replace p470:=eq_true p470;replace q470:=eq_true q470;go_wp2_with (first|((with_reducible refine Xx (N:=4) rfl ?_);(try (refine gate_guard (by rfl) ?_;dsimp only));refine Yw ?hg (N:=4) ?hd (cs:=#[.int .i64 0,.int .i64 0,.int .i64 0,.int .i64 0]) (t:=31) ?hr ?_;(case hd=>rfl);(case hg=>rfl);(case hr=>first|(go_simp;done)|(go_simp;rfl));intro gb471 hg w15 hbox hb;have n0_:=Xa.mk (Xd (bl_ HB) hb);have n1_:=Xa.mk (hbox);have n2_:=Xa.mk ((by rw [hg];exact (Xc (bl_ HB)):w.heap.size≤gb471));have n3_:=Xa.mk ((by rw [hg];exact (Xc (bl_ HB)):w.heap.size≤gb471));clear HB;have HB:=n0_;have BK471:=n1_;have GW471:=n2_;have GE471:=n3_;clear n0_ n1_ n2_ n3_;clear hb hbox hg;obtain ⟨hcz16_0,hcz16_1,hcz16_2,hcz16_3⟩:=Uu BK471.out;obtain ⟨hfz16_0,hfz16_1,hfz16_2,hfz16_3⟩:=Uy BK471.out)|((with_reducible refine Xf (f:=26) rfl ?_);refine Yf (some 23) rfl rfl Try.func26 (by kernel_rfl) rfl #[.agg #[.int .i64 ((Xb l0 x15_2).f0),.int .i64 ((Xb l0 x15_2).f1),.int .i64 ((Xb l0 x15_2).f2),.int .i64 ((Xb l0 x15_2).f3)],.int .i64 (l0.length:Int)] rfl ga_ ?_;(with_reducible refine (impl_insOk.calls ((Xb l0 x15_2).f0) ((Xb l0 x15_2).f1) ((Xb l0 x15_2).f2) ((Xb l0 x15_2).f3) (l0.length:Int) true _ A8.out).mono ?_);rintro e w17 ⟨rfl,hb⟩;refine ⟨_,rfl,?_⟩;have n0_:=Xa.mk (Zo (g:=gb471) (o:=.cells #[.int .i64 ((Xb l0 x15_2).f0),.int .i64 ((Xb l0 x15_2).f1),.int .i64 ((Xb l0 x15_2).f2),.int .i64 ((Xb l0 x15_2).f3)] 31 (0,0)) (by (with_reducible repeat (first|refine Xj ?_ _|refine Xo ?_|refine Xi ?_ _));refine Ye (cs:=#[.int .i64 ((Xb l0 x15_2).f0),.int .i64 ((Xb l0 x15_2).f1),.int .i64 ((Xb l0 x15_2).f2),.int .i64 0]) ?_ 3 _ rfl;(with_reducible repeat (first|refine Xj ?_ _|refine Xo ?_|refine Xi ?_ _));refine Ye (cs:=#[.int .i64 ((Xb l0 x15_2).f0),.int .i64 ((Xb l0 x15_2).f1),.int .i64 0,.int .i64 0]) ?_ 2 _ rfl;(with_reducible repeat (first|refine Xj ?_ _|refine Xo ?_|refine Xi ?_ _));refine Ye (cs:=#[.int .i64 ((Xb l0 x15_2).f0),.int .i64 0,.int .i64 0,.int .i64 0]) ?_ 1 _ rfl;(with_reducible repeat (first|refine Xj ?_ _|refine Xo ?_|refine Xi ?_ _));refine Ye (cs:=#[.int .i64 0,.int .i64 0,.int .i64 0,.int .i64 0]) ?_ 0 _ rfl;(with_reducible repeat (first|refine Xj ?_ _|refine Xo ?_|refine Xi ?_ _));exact BK471.out) hb);have n1_:=Xa.mk (Xd (bl_ HB) hb);clear BK471;clear HB;have BK471:=n0_;have HB:=n1_;clear n0_ n1_;(try clear hb);(try clear hb2);(try clear hk);(try clear hi);obtain ⟨hcz18_0,hcz18_1,hcz18_2,hcz18_3⟩:=Uu BK471.out;obtain ⟨hfz18_0,hfz18_1,hfz18_2,hfz18_3⟩:=Uy BK471.out))
           go_roundg k2
           case measure=>have:=HJ1.out;have:=HK2.out;omega
           case rel=>exact ⟨(wrap64 (x15_2+1)),(by first|rfl|(simp;done)|(simp [*];done)),H',⟨by have:=HJ1.out;have:=HK2.out;omega⟩,⟨bl_ HB⟩⟩
         ·replace c9:=Bool.eq_false_iff.mpr c9;subst c9
          have H1:(some false)=some r:=by rw [if_neg (show ¬ (false=true) by decide)] at H;exact H
          clear H;have H:=H1;clear H1;obtain rfl:=Option.some.inj H;have p470:0≤(x15_2:Int):=of_decide_eq_true (by first|(with_reducible assumption)|assumption);have q470:x15_2<(l0.length:Int):=of_decide_eq_true (by first|(with_reducible assumption)|assumption);obtain ⟨ad470,e470,hx470_0,hx470_1,hx470_2,hx470_3⟩:=Zt HR0.out x15_2 p470 q470;cases e470
          replace hx470_0:=(HB.out.cell (World.block_lt_of_cell? w _ hx470_0)).trans hx470_0;replace hx470_1:=(HB.out.cell (World.block_lt_of_cell? w _ hx470_1)).trans hx470_1;replace hx470_2:=(HB.out.cell (World.block_lt_of_cell? w _ hx470_2)).trans hx470_2;replace hx470_3:=(HB.out.cell (World.block_lt_of_cell? w _ hx470_3)).trans hx470_3;replace p470:=eq_true p470;replace q470:=eq_true q470;go_wp2_with (first|((with_reducible refine Xx (N:=4) rfl ?_);(try (refine gate_guard (by rfl) ?_;dsimp only));refine Yw ?hg (N:=4) ?hd (cs:=#[.int .i64 0,.int .i64 0,.int .i64 0,.int .i64 0]) (t:=31) ?hr ?_;(case hd=>rfl);(case hg=>rfl);(case hr=>first|(go_simp;done)|(go_simp;rfl));intro gb471 hg w19 hbox hb;have n0_:=Xa.mk (Xd (bl_ HB) hb);have n1_:=Xa.mk (hbox);have n2_:=Xa.mk ((by rw [hg];exact (Xc (bl_ HB)):w.heap.size≤gb471));have n3_:=Xa.mk ((by rw [hg];exact (Xc (bl_ HB)):w.heap.size≤gb471));clear HB;have HB:=n0_;have BK471:=n1_;have GW471:=n2_;have GE471:=n3_;clear n0_ n1_ n2_ n3_;clear hb hbox hg;obtain ⟨hcz20_0,hcz20_1,hcz20_2,hcz20_3⟩:=Uu BK471.out;obtain ⟨hfz20_0,hfz20_1,hfz20_2,hfz20_3⟩:=Uy BK471.out)|((with_reducible refine Xf (f:=26) rfl ?_);refine Yf (some 23) rfl rfl Try.func26 (by kernel_rfl) rfl #[.agg #[.int .i64 ((Xb l0 x15_2).f0),.int .i64 ((Xb l0 x15_2).f1),.int .i64 ((Xb l0 x15_2).f2),.int .i64 ((Xb l0 x15_2).f3)],.int .i64 (l0.length:Int)] rfl ga_ ?_;(with_reducible refine (impl_insOk.calls ((Xb l0 x15_2).f0) ((Xb l0 x15_2).f1) ((Xb l0 x15_2).f2) ((Xb l0 x15_2).f3) (l0.length:Int) false _ A8.out).mono ?_);rintro e w21 ⟨rfl,hb⟩;refine ⟨_,rfl,?_⟩;have n0_:=Xa.mk (Zo (g:=gb471) (o:=.cells #[.int .i64 ((Xb l0 x15_2).f0),.int .i64 ((Xb l0 x15_2).f1),.int .i64 ((Xb l0 x15_2).f2),.int .i64 ((Xb l0 x15_2).f3)] 31 (0,0)) (by (with_reducible repeat (first|refine Xj ?_ _|refine Xo ?_|refine Xi ?_ _));refine Ye (cs:=#[.int .i64 ((Xb l0 x15_2).f0),.int .i64 ((Xb l0 x15_2).f1),.int .i64 ((Xb l0 x15_2).f2),.int .i64 0]) ?_ 3 _ rfl;(with_reducible repeat (first|refine Xj ?_ _|refine Xo ?_|refine Xi ?_ _));refine Ye (cs:=#[.int .i64 ((Xb l0 x15_2).f0),.int .i64 ((Xb l0 x15_2).f1),.int .i64 0,.int .i64 0]) ?_ 2 _ rfl;(with_reducible repeat (first|refine Xj ?_ _|refine Xo ?_|refine Xi ?_ _));refine Ye (cs:=#[.int .i64 ((Xb l0 x15_2).f0),.int .i64 0,.int .i64 0,.int .i64 0]) ?_ 1 _ rfl;(with_reducible repeat (first|refine Xj ?_ _|refine Xo ?_|refine Xi ?_ _));refine Ye (cs:=#[.int .i64 0,.int .i64 0,.int .i64 0,.int .i64 0]) ?_ 0 _ rfl;(with_reducible repeat (first|refine Xj ?_ _|refine Xo ?_|refine Xi ?_ _));exact BK471.out) hb);have n1_:=Xa.mk (Xd (bl_ HB) hb);clear BK471;clear HB;have BK471:=n0_;have HB:=n1_;clear n0_ n1_;(try clear hb);(try clear hb2);(try clear hk);(try clear hi)))
          go_ret
          exact ⟨rf_,bl_ HB⟩
        ·rw [if_neg c7] at H;exact absurd H (by simp)
       ·rw [if_neg c6] at H;exact absurd H (by simp)
      ·rw [if_neg c5] at H;have c5b0:decide (x15_2<(l0.length:Int))=false:=decide_eq_false c5;clear c5;replace H:=Option.bind_eq_some_iff.mp H;obtain ⟨t473,A220,H⟩:=H;replace H:(some t473)=some r:=H;have A22:=Xa.mk A220;clear A220;obtain rfl:=Option.some.inj H;go_wp2_with (first|((with_reducible refine Xf (f:=27) rfl ?_);refine Yf (some 38) rfl rfl Try.func27 (by kernel_rfl) rfl #[.slice A0 l0.length c0] rfl ga_ ?_;(with_reducible refine (Ya.calls k2 _ _ l0 t473 _ ?side1 ?side2 A22.out).mono ?_);(case side1=>repeat (first|exact (Kd.Zi HR0.out HB.out)|(with_reducible refine Kd.Xq ?_ _)|(with_reducible refine Kd.Xr ?_ _)|(with_reducible refine Kd.Yc ?_)));(case side2=>exact HC0.out);rintro e w23 ⟨rfl,hb⟩;refine ⟨_,rfl,?_⟩;have n0_:=Xa.mk (Xd (bl_ HB) hb);clear HB;have HB:=n0_;clear n0_;(try clear hb);(try clear hb2);(try clear hk);(try clear hi)))
       go_ret
       exact ⟨rf_,bl_ HB⟩
end Go.Proofs.Ytdkcjecllbdljaa.GSlim
