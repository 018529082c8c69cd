import Derived.Test.YtdkcjecllbdljaaDoorCFnExactCodeText0
import Derived.Test.YtdkcjecllbdljaaDoorCFnExactCodeText22
import Derived.Test.YtdkcjecllbdljaaDoorCFnExactCodeText38
import Derived.Test.YtdkcjecllbdljaaDoorCFnExactCodeText41
namespace Go.Proofs.YtdkcjecllbdljaaDoor.GCode
open Go.RowKit Go.Proofs.YtdkcjecllbdljaaDoorW.PrintWords Go.Proofs.YtdkcjecllbdljaaDoorW.PrintLast Go.Proofs.YtdkcjecllbdljaaDoorW.PrintMore
attribute [local go_sem] max2_int min2_int max_two min_two Zb Zc max_four min_four
set_option linter.unusedVariables false
set_option linter.unusedSimpArgs false
def Xx.l0:Nat→ByteArray→List (S36)→Int→Int→Option (ByteArray)
 |0,_,_,_,_=>none
 |k+1,x3,x9,x10,x11=>if x11<x10 then (if 0≤x11 then (if x11<(x9.length:Int) then ((Xv.f k ((Xb x9 x11).f0) ((Xb x9 x11).f1) ((Xb x9 x11).f2) ((Xb x9 x11).f3)).bind fun t264=>(if t264.size+1≤9223372036854775807 then (if x3.size+(t264 ++ (⟨#[10]⟩:ByteArray)).size≤9223372036854775807 then (Xx.l0 k (x3 ++ (t264 ++ (⟨#[10]⟩:ByteArray))) x9 x10 (wrap64 (x11+1))) else (none)) else (none))) else (none)) else (none)) else (some x3)
def Xx.f (k:Nat) (l0:List (S36)):Option (ByteArray):=(Xw.f k l0).bind fun t261=>(if t261=true then (Xx.l0 k (⟨#[]⟩:ByteArray) l0 (l0.length:Int) 0) else (some (⟨#[]⟩:ByteArray)))
set_option maxHeartbeats 8000000 in
set_option maxRecDepth 100000 in
theorem Xx.calls (k:Nat) (A0:Option Addr) (c0:Nat) (l0:List (S36)) (r:ByteArray) (w:World) (hr0:Kd.C k36 w A0 l0.length l0) (hc0:l0.length≤c0) (h:Xx.f k l0=some r) (ht:Go.Proofs.YtdkcjecllbdljaaDoor.Shelf2.Tab w) :
  Calls Tryd.prog 8 #[.slice A0 l0.length c0] w fun e w'=>e=.returned (.string r)∧Below w.heap.size w w':=by
 have HT:=Xa.mk ht;clear ht;have hu36:=Tryd.underlying36;have HR0:=Xa.mk hr0;have HC0:=Xa.mk hc0;clear hr0 hc0;have HB:=Xa.mk (Below.refl w.heap.size w);have H:((Xw.f k l0).bind fun t261=>(if t261=true then (Xx.l0 k (⟨#[]⟩:ByteArray) l0 (l0.length:Int) 0) else (some (⟨#[]⟩:ByteArray))))=some r:=h;clear h;replace H:=Option.bind_eq_some_iff.mp H;obtain ⟨t261,A20,H⟩:=H;replace H:(if t261=true then (Xx.l0 k (⟨#[]⟩:ByteArray) l0 (l0.length:Int) 0) else (some (⟨#[]⟩:ByteArray)))=some r:=H;have A2:=Xa.mk A20;clear A20;by_cases c3:t261=true
 ·subst c3
  have H1:(Xx.l0 k (⟨#[]⟩:ByteArray) l0 (l0.length:Int) 0)=some r:=by rw [if_pos rfl] at H;exact H
  clear H;have H:=H1;clear H1;have H':=Xa.mk H;clear H
  go_enter Tryd.func8,Tryd.ntmps8
  go_wp2_with (first|((with_reducible refine Xl (f:=16) rfl ?_);refine Ym (some 7) rfl rfl Tryd.func16 (by kernel_rfl) rfl #[.slice A0 l0.length c0] rfl ga_ ?_;(with_reducible refine (Xw.calls k _ _ l0 true _ ?side1 ?side2 A2.out).mono ?_);(case side1=>repeat (first|exact HR0.out|(with_reducible refine Kd.Yt ?_ _)|(with_reducible refine Kd.Yu ?_ _)|(with_reducible refine Kd.Zd ?_)));(case side2=>exact HC0.out);rintro e w4 ⟨rfl,hb⟩;refine ⟨_,rfl,?_⟩;have n0_:=Xa.mk (Xd (bl_ HB) hb);clear HB;have HB:=n0_;clear n0_;(try clear hb);(try clear hb2);(try clear hk);(try clear hi)))
  go_loopg [3,11] k (fun kq v3 v11 w'=>∃ (x3_1:ByteArray) (x11_1:Int),v3=.string x3_1∧v11=.int .i64 x11_1∧Xa (Xx.l0 kq x3_1 l0 (l0.length:Int) x11_1=some r)∧Xa (kq≤k)∧Xa (Below w.heap.size w w'))
  case atStart=>exact ⟨((⟨#[]⟩:ByteArray)),(0),(by first|rfl|(simp;done)|(simp [*];done)),(by first|rfl|(simp;done)|(simp [*];done)),H',⟨Nat.le_refl _⟩,⟨bl_ HB⟩⟩
  case round=>
   clear H'
   try clear c1
   try clear p2
   try clear c3
   obtain ⟨x3_1,x11_1,rfl,rfl,HA,HK1,HB⟩:=hrel
   cases gk with
   |zero=>exact absurd HA.out (by simp [Xx.l0])
   |succ k1=>
    have H:=HA.out;clear HA;simp only [Xx.l0] at H;by_cases c5:x11_1<(l0.length:Int)
    ·rw [if_pos c5] at H;have c5b0:decide (x11_1<(l0.length:Int))=true:=decide_eq_true c5;clear c5;by_cases c6:0≤x11_1
     ·rw [if_pos c6] at H;have c6b0:decide (0≤x11_1)=true:=decide_eq_true c6;clear c6;by_cases c7:x11_1<(l0.length:Int)
      ·rw [if_pos c7] at H;have c7b0:decide (x11_1<(l0.length:Int))=true:=decide_eq_true c7;clear c7;replace H:=Option.bind_eq_some_iff.mp H;obtain ⟨t264,A80,H⟩:=H;replace H:(if t264.size+1≤9223372036854775807 then (if x3_1.size+(t264 ++ (⟨#[10]⟩:ByteArray)).size≤9223372036854775807 then (Xx.l0 k1 (x3_1 ++ (t264 ++ (⟨#[10]⟩:ByteArray))) l0 (l0.length:Int) (wrap64 (x11_1+1))) else (none)) else (none))=some r:=H;have A8:=Xa.mk A80;clear A80;by_cases c9:t264.size+1≤9223372036854775807
       ·rw [if_pos c9] at H;have c9b0:=eq_true c9;have c9b1:decide (t264.size+1≤9223372036854775807)=true:=decide_eq_true c9
        try have c9b2:(9223372036854775807<t264.size+1)=False:=eq_false (Nat.not_lt.2 c9)
        by_cases c10:x3_1.size+(t264 ++ (⟨#[10]⟩:ByteArray)).size≤9223372036854775807
        ·rw [if_pos c10] at H;have c10b0:=eq_true c10;have c10b1:decide (x3_1.size+(t264 ++ (⟨#[10]⟩:ByteArray)).size≤9223372036854775807)=true:=decide_eq_true c10
         have c10s:x3_1.size+(t264.size+1)≤9223372036854775807:=by have h_:=c10;simp only [ByteArray.size_append] at h_;exact h_
         have c10s0:=eq_true c10s;have c10s1:decide (x3_1.size+(t264.size+1)≤9223372036854775807)=true:=decide_eq_true c10s
         try have c10s2:(9223372036854775807<x3_1.size+(t264.size+1))=False:=eq_false (Nat.not_lt.2 c10s)
         try have c10b2:(9223372036854775807<x3_1.size+(t264 ++ (⟨#[10]⟩:ByteArray)).size)=False:=eq_false (Nat.not_lt.2 c10)
         have H':=Xa.mk H;clear H;have p262:0≤(x11_1:Int):=of_decide_eq_true (by first|(with_reducible assumption)|assumption);have q262:x11_1<(l0.length:Int):=of_decide_eq_true (by first|(with_reducible assumption)|assumption);obtain ⟨ad262,e262,hx262_0,hx262_1,hx262_2,hx262_3⟩:=at_T36 HR0.out x11_1 p262 q262;cases e262
         replace hx262_0:=(HB.out.cell (World.block_lt_of_cell? w _ hx262_0)).trans hx262_0;replace hx262_1:=(HB.out.cell (World.block_lt_of_cell? w _ hx262_1)).trans hx262_1;replace hx262_2:=(HB.out.cell (World.block_lt_of_cell? w _ hx262_2)).trans hx262_2;replace hx262_3:=(HB.out.cell (World.block_lt_of_cell? w _ hx262_3)).trans hx262_3;replace p262:=eq_true p262;replace q262:=eq_true q262;go_wp2_with (first|((with_reducible refine Xj (N:=5) rfl ?_);refine Xq ?hg (N:=5) ?hd (cs:=#[.int .i64 0,.int .i64 0,.int .i64 0,.int .i64 0]) (t:=36) ?hr ?_;(case hd=>rfl);(case hg=>rfl);(case hr=>first|(go_simp;done)|(go_simp;rfl));intro gb263 hg w11 hbox hb;have n0_:=Xa.mk (Xd (bl_ HB) hb);have n1_:=Xa.mk (hbox);have n2_:=Xa.mk ((by rw [hg];exact (Xc (bl_ HB)):w.heap.size≤gb263));have n3_:=Xa.mk ((by rw [hg];exact (Xc (bl_ HB)):w.heap.size≤gb263));clear HB;have HB:=n0_;have BK263:=n1_;have GW263:=n2_;have GE263:=n3_;clear n0_ n1_ n2_ n3_;clear hb hbox hg;obtain ⟨hcz12_0,hcz12_1,hcz12_2,hcz12_3⟩:=Yn BK263.out;obtain ⟨hfz12_0,hfz12_1,hfz12_2,hfz12_3⟩:=Yo BK263.out)|((with_reducible refine Xl (f:=17) rfl ?_);refine Ym (some 17) rfl rfl Tryd.func17 (by kernel_rfl) rfl #[.agg #[.int .i64 ((Xb l0 x11_1).f0),.int .i64 ((Xb l0 x11_1).f1),.int .i64 ((Xb l0 x11_1).f2),.int .i64 ((Xb l0 x11_1).f3)]] rfl ga_ ?_;(with_reducible refine (Xv.calls k1 ((Xb l0 x11_1).f0) ((Xb l0 x11_1).f1) ((Xb l0 x11_1).f2) ((Xb l0 x11_1).f3) t264 _ A8.out (Go.Proofs.YtdkcjecllbdljaaDoor.Shelf2.Tab.below HT.out (bl_ HB))).mono ?_);rintro e w13 ⟨rfl,hb⟩;refine ⟨_,rfl,?_⟩;have n0_:=Xa.mk (Xz (g:=gb263) (o:=.cells #[.int .i64 ((Xb l0 x11_1).f0),.int .i64 ((Xb l0 x11_1).f1),.int .i64 ((Xb l0 x11_1).f2),.int .i64 ((Xb l0 x11_1).f3)] 36 (0,0)) (by (with_reducible repeat (first|refine Ye ?_ _|refine Yk ?_|refine Yd ?_ _));refine blk_put (cs:=#[.int .i64 ((Xb l0 x11_1).f0),.int .i64 ((Xb l0 x11_1).f1),.int .i64 ((Xb l0 x11_1).f2),.int .i64 0]) ?_ 3 _ rfl;(with_reducible repeat (first|refine Ye ?_ _|refine Yk ?_|refine Yd ?_ _));refine blk_put (cs:=#[.int .i64 ((Xb l0 x11_1).f0),.int .i64 ((Xb l0 x11_1).f1),.int .i64 0,.int .i64 0]) ?_ 2 _ rfl;(with_reducible repeat (first|refine Ye ?_ _|refine Yk ?_|refine Yd ?_ _));refine blk_put (cs:=#[.int .i64 ((Xb l0 x11_1).f0),.int .i64 0,.int .i64 0,.int .i64 0]) ?_ 1 _ rfl;(with_reducible repeat (first|refine Ye ?_ _|refine Yk ?_|refine Yd ?_ _));refine blk_put (cs:=#[.int .i64 0,.int .i64 0,.int .i64 0,.int .i64 0]) ?_ 0 _ rfl;(with_reducible repeat (first|refine Ye ?_ _|refine Yk ?_|refine Yd ?_ _));exact BK263.out) hb);have n1_:=Xa.mk (Xd (bl_ HB) hb);clear BK263;clear HB;have BK263:=n0_;have HB:=n1_;clear n0_ n1_;(try clear hb);(try clear hb2);(try clear hk);(try clear hi)))
         go_roundg k1
         case measure=>have:=HK1.out;omega
         case rel=>exact ⟨(x3_1 ++ (t264 ++ (⟨#[10]⟩:ByteArray))),(wrap64 (x11_1+1)),(by first|rfl|(simp;done)|(simp [*];done)),(by first|rfl|(simp;done)|(simp [*];done)),H',⟨by have:=HK1.out;omega⟩,⟨bl_ HB⟩⟩
        ·rw [if_neg c10] at H;exact absurd H (by simp)
       ·rw [if_neg c9] at H;exact absurd H (by simp)
      ·rw [if_neg c7] at H;exact absurd H (by simp)
     ·rw [if_neg c6] at H;exact absurd H (by simp)
    ·rw [if_neg c5] at H;have c5b0:decide (x11_1<(l0.length:Int))=false:=decide_eq_false c5;clear c5;obtain rfl:=Option.some.inj H;go_wp2
     go_ret
     exact ⟨rf_,bl_ HB⟩
 ·replace c3:=Bool.eq_false_iff.mpr c3;subst c3
  have H1:(some (⟨#[]⟩:ByteArray))=some r:=by rw [if_neg (show ¬ (false=true) by decide)] at H;exact H
  clear H;have H:=H1;clear H1;obtain rfl:=Option.some.inj H
  go_enter Tryd.func8,Tryd.ntmps8
  go_wp2_with (first|((with_reducible refine Xl (f:=16) rfl ?_);refine Ym (some 7) rfl rfl Tryd.func16 (by kernel_rfl) rfl #[.slice A0 l0.length c0] rfl ga_ ?_;(with_reducible refine (Xw.calls k _ _ l0 false _ ?side1 ?side2 A2.out).mono ?_);(case side1=>repeat (first|exact HR0.out|(with_reducible refine Kd.Yt ?_ _)|(with_reducible refine Kd.Yu ?_ _)|(with_reducible refine Kd.Zd ?_)));(case side2=>exact HC0.out);rintro e w14 ⟨rfl,hb⟩;refine ⟨_,rfl,?_⟩;have n0_:=Xa.mk (Xd (bl_ HB) hb);clear HB;have HB:=n0_;clear n0_;(try clear hb);(try clear hb2);(try clear hk);(try clear hi)))
  go_ret
  exact ⟨rf_,bl_ HB⟩
def laws_eqIns.f (a0_0:Int) (a0_1:Int) (a0_2:Int) (a0_3:Int) (a1_0:Int) (a1_1:Int) (a1_2:Int) (a1_3:Int):Option (Bool):=if a0_0=a1_0 then (if a0_1=a1_1 then (if a0_2=a1_2 then (if a0_3=a1_3 then (some true) else (some false)) else (some false)) else (some false)) else (some false)
set_option maxHeartbeats 8000000 in
set_option maxRecDepth 100000 in
theorem laws_eqIns.calls (a0_0:Int) (a0_1:Int) (a0_2:Int) (a0_3:Int) (a1_0:Int) (a1_1:Int) (a1_2:Int) (a1_3:Int) (r:Bool) (w:World) (h:laws_eqIns.f a0_0 a0_1 a0_2 a0_3 a1_0 a1_1 a1_2 a1_3=some r) :
  Calls Tryd.prog 18 #[.agg #[.int .i64 a0_0,.int .i64 a0_1,.int .i64 a0_2,.int .i64 a0_3],.agg #[.int .i64 a1_0,.int .i64 a1_1,.int .i64 a1_2,.int .i64 a1_3]] w fun e w'=>e=.returned (.bool r)∧Below w.heap.size w w':=by
 have hu36:=Tryd.underlying36;have HB:=Xa.mk (Below.refl w.heap.size w);have H:(if a0_0=a1_0 then (if a0_1=a1_1 then (if a0_2=a1_2 then (if a0_3=a1_3 then (some true) else (some false)) else (some false)) else (some false)) else (some false))=some r:=h;clear h;by_cases c3:a0_0=a1_0
 ·rw [if_pos c3] at H;have c3b0:(a0_0 == a1_0)=true:=beq_iff_eq.mpr c3;have c3b1:(a0_0 != a1_0)=false:=bne_eq_false_iff_eq.mpr c3;clear c3;by_cases c4:a0_1=a1_1
  ·rw [if_pos c4] at H;have c4b0:(a0_1 == a1_1)=true:=beq_iff_eq.mpr c4;have c4b1:(a0_1 != a1_1)=false:=bne_eq_false_iff_eq.mpr c4;clear c4;by_cases c5:a0_2=a1_2
   ·rw [if_pos c5] at H;have c5b0:(a0_2 == a1_2)=true:=beq_iff_eq.mpr c5;have c5b1:(a0_2 != a1_2)=false:=bne_eq_false_iff_eq.mpr c5;clear c5;by_cases c6:a0_3=a1_3
    ·rw [if_pos c6] at H;have c6b0:(a0_3 == a1_3)=true:=beq_iff_eq.mpr c6;have c6b1:(a0_3 != a1_3)=false:=bne_eq_false_iff_eq.mpr c6;clear c6;obtain rfl:=Option.some.inj H
     go_enter Tryd.func18,Tryd.ntmps18
     go_wp2_with (first|((with_reducible refine Xj (N:=2) rfl ?_);refine Xq ?hg (N:=2) ?hd (cs:=#[.int .i64 a0_0,.int .i64 a0_1,.int .i64 a0_2,.int .i64 a0_3]) (t:=36) ?hr ?_;(case hd=>rfl);(case hg=>rfl);(case hr=>first|(go_simp;done)|(go_simp;rfl));intro gb265 hg w7 hbox hb;have n0_:=Xa.mk (Xd (bl_ HB) hb);have n1_:=Xa.mk (hbox);have n2_:=Xa.mk ((by rw [hg];exact (Xc (bl_ HB)):w.heap.size≤gb265));have n3_:=Xa.mk ((by rw [hg];exact (Xc (bl_ HB)):w.heap.size≤gb265));clear HB;have HB:=n0_;have BK265:=n1_;have GW265:=n2_;have GE265:=n3_;clear n0_ n1_ n2_ n3_;clear hb hbox hg)|((with_reducible refine Xj (N:=3) rfl ?_);refine Xq ?hg (N:=3) ?hd (cs:=#[.int .i64 a1_0,.int .i64 a1_1,.int .i64 a1_2,.int .i64 a1_3]) (t:=36) ?hr ?_;(case hd=>rfl);(case hg=>rfl);(case hr=>first|(go_simp;done)|(go_simp;rfl));intro gb266 hg w8 hbox hb;have n0_:=Xa.mk (Xz (g:=gb265) (o:=.cells #[.int .i64 a0_0,.int .i64 a0_1,.int .i64 a0_2,.int .i64 a0_3] 36 (0,0)) (ba_ BK265) hb);have n1_:=Xa.mk (Xd (bl_ HB) hb);have n2_:=Xa.mk (hbox);have n3_:=Xa.mk ((by rw [hg];exact (Xc (bl_ HB)):w.heap.size≤gb266));have n4_:=Xa.mk ((by rw [hg];exact (Xc (bl_ HB)):w.heap.size≤gb266));have n5_:=Xa.mk ((by rw [hg];exact Nat.ne_of_lt (blk_lt (g:=gb265) (o:=.cells #[.int .i64 a0_0,.int .i64 a0_1,.int .i64 a0_2,.int .i64 a0_3] 36 (0,0)) (ba_ BK265)):gb265≠gb266));have n6_:=Xa.mk ((by rw [hg];exact Nat.ne_of_gt (blk_lt (g:=gb265) (o:=.cells #[.int .i64 a0_0,.int .i64 a0_1,.int .i64 a0_2,.int .i64 a0_3] 36 (0,0)) (ba_ BK265)):gb266≠gb265));clear BK265;clear HB;have BK265:=n0_;have HB:=n1_;have BK266:=n2_;have GW266:=n3_;have GE266:=n4_;have NB265_266:=n5_;have NB266_265:=n6_;clear n0_ n1_ n2_ n3_ n4_ n5_ n6_;clear hb hbox hg;have hnb9:=NB265_266.out;have hnc9:=NB266_265.out;obtain ⟨hcz10_0,hcz10_1,hcz10_2,hcz10_3⟩:=Yn BK265.out;obtain ⟨hfz10_0,hfz10_1,hfz10_2,hfz10_3⟩:=Yo BK265.out;obtain ⟨hcz11_0,hcz11_1,hcz11_2,hcz11_3⟩:=Yn BK266.out;obtain ⟨hfz11_0,hfz11_1,hfz11_2,hfz11_3⟩:=Yo BK266.out))
     go_ret
     exact ⟨rf_,bl_ HB⟩
    ·rw [if_neg c6] at H;have c6b0:(a0_3 == a1_3)=false:=beq_eq_false_iff_ne.mpr c6;have c6b1:(a0_3 != a1_3)=true:=bne_iff_ne.mpr c6;obtain rfl:=Option.some.inj H
     go_enter Tryd.func18,Tryd.ntmps18
     go_wp2_with (first|((with_reducible refine Xj (N:=2) rfl ?_);refine Xq ?hg (N:=2) ?hd (cs:=#[.int .i64 a0_0,.int .i64 a0_1,.int .i64 a0_2,.int .i64 a0_3]) (t:=36) ?hr ?_;(case hd=>rfl);(case hg=>rfl);(case hr=>first|(go_simp;done)|(go_simp;rfl));intro gb265 hg w12 hbox hb;have n0_:=Xa.mk (Xd (bl_ HB) hb);have n1_:=Xa.mk (hbox);have n2_:=Xa.mk ((by rw [hg];exact (Xc (bl_ HB)):w.heap.size≤gb265));have n3_:=Xa.mk ((by rw [hg];exact (Xc (bl_ HB)):w.heap.size≤gb265));clear HB;have HB:=n0_;have BK265:=n1_;have GW265:=n2_;have GE265:=n3_;clear n0_ n1_ n2_ n3_;clear hb hbox hg)|((with_reducible refine Xj (N:=3) rfl ?_);refine Xq ?hg (N:=3) ?hd (cs:=#[.int .i64 a1_0,.int .i64 a1_1,.int .i64 a1_2,.int .i64 a1_3]) (t:=36) ?hr ?_;(case hd=>rfl);(case hg=>rfl);(case hr=>first|(go_simp;done)|(go_simp;rfl));intro gb266 hg w13 hbox hb;have n0_:=Xa.mk (Xz (g:=gb265) (o:=.cells #[.int .i64 a0_0,.int .i64 a0_1,.int .i64 a0_2,.int .i64 a0_3] 36 (0,0)) (ba_ BK265) hb);have n1_:=Xa.mk (Xd (bl_ HB) hb);have n2_:=Xa.mk (hbox);have n3_:=Xa.mk ((by rw [hg];exact (Xc (bl_ HB)):w.heap.size≤gb266));have n4_:=Xa.mk ((by rw [hg];exact (Xc (bl_ HB)):w.heap.size≤gb266));have n5_:=Xa.mk ((by rw [hg];exact Nat.ne_of_lt (blk_lt (g:=gb265) (o:=.cells #[.int .i64 a0_0,.int .i64 a0_1,.int .i64 a0_2,.int .i64 a0_3] 36 (0,0)) (ba_ BK265)):gb265≠gb266));have n6_:=Xa.mk ((by rw [hg];exact Nat.ne_of_gt (blk_lt (g:=gb265) (o:=.cells #[.int .i64 a0_0,.int .i64 a0_1,.int .i64 a0_2,.int .i64 a0_3] 36 (0,0)) (ba_ BK265)):gb266≠gb265));clear BK265;clear HB;have BK265:=n0_;have HB:=n1_;have BK266:=n2_;have GW266:=n3_;have GE266:=n4_;have NB265_266:=n5_;have NB266_265:=n6_;clear n0_ n1_ n2_ n3_ n4_ n5_ n6_;clear hb hbox hg;have hnb14:=NB265_266.out;have hnc14:=NB266_265.out;obtain ⟨hcz15_0,hcz15_1,hcz15_2,hcz15_3⟩:=Yn BK265.out;obtain ⟨hfz15_0,hfz15_1,hfz15_2,hfz15_3⟩:=Yo BK265.out;obtain ⟨hcz16_0,hcz16_1,hcz16_2,hcz16_3⟩:=Yn BK266.out;obtain ⟨hfz16_0,hfz16_1,hfz16_2,hfz16_3⟩:=Yo BK266.out))
     go_ret
     exact ⟨rf_,bl_ HB⟩
   ·rw [if_neg c5] at H;have c5b0:(a0_2 == a1_2)=false:=beq_eq_false_iff_ne.mpr c5;have c5b1:(a0_2 != a1_2)=true:=bne_iff_ne.mpr c5;obtain rfl:=Option.some.inj H
    go_enter Tryd.func18,Tryd.ntmps18
    go_wp2_with (first|((with_reducible refine Xj (N:=2) rfl ?_);refine Xq ?hg (N:=2) ?hd (cs:=#[.int .i64 a0_0,.int .i64 a0_1,.int .i64 a0_2,.int .i64 a0_3]) (t:=36) ?hr ?_;(case hd=>rfl);(case hg=>rfl);(case hr=>first|(go_simp;done)|(go_simp;rfl));intro gb265 hg w17 hbox hb;have n0_:=Xa.mk (Xd (bl_ HB) hb);have n1_:=Xa.mk (hbox);have n2_:=Xa.mk ((by rw [hg];exact (Xc (bl_ HB)):w.heap.size≤gb265));have n3_:=Xa.mk ((by rw [hg];exact (Xc (bl_ HB)):w.heap.size≤gb265));clear HB;have HB:=n0_;have BK265:=n1_;have GW265:=n2_;have GE265:=n3_;clear n0_ n1_ n2_ n3_;clear hb hbox hg)|((with_reducible refine Xj (N:=3) rfl ?_);refine Xq ?hg (N:=3) ?hd (cs:=#[.int .i64 a1_0,.int .i64 a1_1,.int .i64 a1_2,.int .i64 a1_3]) (t:=36) ?hr ?_;(case hd=>rfl);(case hg=>rfl);(case hr=>first|(go_simp;done)|(go_simp;rfl));intro gb266 hg w18 hbox hb;have n0_:=Xa.mk (Xz (g:=gb265) (o:=.cells #[.int .i64 a0_0,.int .i64 a0_1,.int .i64 a0_2,.int .i64 a0_3] 36 (0,0)) (ba_ BK265) hb);have n1_:=Xa.mk (Xd (bl_ HB) hb);have n2_:=Xa.mk (hbox);have n3_:=Xa.mk ((by rw [hg];exact (Xc (bl_ HB)):w.heap.size≤gb266));have n4_:=Xa.mk ((by rw [hg];exact (Xc (bl_ HB)):w.heap.size≤gb266));have n5_:=Xa.mk ((by rw [hg];exact Nat.ne_of_lt (blk_lt (g:=gb265) (o:=.cells #[.int .i64 a0_0,.int .i64 a0_1,.int .i64 a0_2,.int .i64 a0_3] 36 (0,0)) (ba_ BK265)):gb265≠gb266));have n6_:=Xa.mk ((by rw [hg];exact Nat.ne_of_gt (blk_lt (g:=gb265) (o:=.cells #[.int .i64 a0_0,.int .i64 a0_1,.int .i64 a0_2,.int .i64 a0_3] 36 (0,0)) (ba_ BK265)):gb266≠gb265));clear BK265;clear HB;have BK265:=n0_;have HB:=n1_;have BK266:=n2_;have GW266:=n3_;have GE266:=n4_;have NB265_266:=n5_;have NB266_265:=n6_;clear n0_ n1_ n2_ n3_ n4_ n5_ n6_;clear hb hbox hg;have hnb19:=NB265_266.out;have hnc19:=NB266_265.out;obtain ⟨hcz20_0,hcz20_1,hcz20_2,hcz20_3⟩:=Yn BK265.out;obtain ⟨hfz20_0,hfz20_1,hfz20_2,hfz20_3⟩:=Yo BK265.out;obtain ⟨hcz21_0,hcz21_1,hcz21_2,hcz21_3⟩:=Yn BK266.out;obtain ⟨hfz21_0,hfz21_1,hfz21_2,hfz21_3⟩:=Yo BK266.out))
    go_ret
    exact ⟨rf_,bl_ HB⟩
  ·rw [if_neg c4] at H;have c4b0:(a0_1 == a1_1)=false:=beq_eq_false_iff_ne.mpr c4;have c4b1:(a0_1 != a1_1)=true:=bne_iff_ne.mpr c4;obtain rfl:=Option.some.inj H
   go_enter Tryd.func18,Tryd.ntmps18
   go_wp2_with (first|((with_reducible refine Xj (N:=2) rfl ?_);refine Xq ?hg (N:=2) ?hd (cs:=#[.int .i64 a0_0,.int .i64 a0_1,.int .i64 a0_2,.int .i64 a0_3]) (t:=36) ?hr ?_;(case hd=>rfl);(case hg=>rfl);(case hr=>first|(go_simp;done)|(go_simp;rfl));intro gb265 hg w22 hbox hb;have n0_:=Xa.mk (Xd (bl_ HB) hb);have n1_:=Xa.mk (hbox);have n2_:=Xa.mk ((by rw [hg];exact (Xc (bl_ HB)):w.heap.size≤gb265));have n3_:=Xa.mk ((by rw [hg];exact (Xc (bl_ HB)):w.heap.size≤gb265));clear HB;have HB:=n0_;have BK265:=n1_;have GW265:=n2_;have GE265:=n3_;clear n0_ n1_ n2_ n3_;clear hb hbox hg)|((with_reducible refine Xj (N:=3) rfl ?_);refine Xq ?hg (N:=3) ?hd (cs:=#[.int .i64 a1_0,.int .i64 a1_1,.int .i64 a1_2,.int .i64 a1_3]) (t:=36) ?hr ?_;(case hd=>rfl);(case hg=>rfl);(case hr=>first|(go_simp;done)|(go_simp;rfl));intro gb266 hg w23 hbox hb;have n0_:=Xa.mk (Xz (g:=gb265) (o:=.cells #[.int .i64 a0_0,.int .i64 a0_1,.int .i64 a0_2,.int .i64 a0_3] 36 (0,0)) (ba_ BK265) hb);have n1_:=Xa.mk (Xd (bl_ HB) hb);have n2_:=Xa.mk (hbox);have n3_:=Xa.mk ((by rw [hg];exact (Xc (bl_ HB)):w.heap.size≤gb266));have n4_:=Xa.mk ((by rw [hg];exact (Xc (bl_ HB)):w.heap.size≤gb266));have n5_:=Xa.mk ((by rw [hg];exact Nat.ne_of_lt (blk_lt (g:=gb265) (o:=.cells #[.int .i64 a0_0,.int .i64 a0_1,.int .i64 a0_2,.int .i64 a0_3] 36 (0,0)) (ba_ BK265)):gb265≠gb266));have n6_:=Xa.mk ((by rw [hg];exact Nat.ne_of_gt (blk_lt (g:=gb265) (o:=.cells #[.int .i64 a0_0,.int .i64 a0_1,.int .i64 a0_2,.int .i64 a0_3] 36 (0,0)) (ba_ BK265)):gb266≠gb265));clear BK265;clear HB;have BK265:=n0_;have HB:=n1_;have BK266:=n2_;have GW266:=n3_;have GE266:=n4_;have NB265_266:=n5_;have NB266_265:=n6_;clear n0_ n1_ n2_ n3_ n4_ n5_ n6_;clear hb hbox hg;have hnb24:=NB265_266.out;have hnc24:=NB266_265.out;obtain ⟨hcz25_0,hcz25_1,hcz25_2,hcz25_3⟩:=Yn BK265.out;obtain ⟨hfz25_0,hfz25_1,hfz25_2,hfz25_3⟩:=Yo BK265.out;obtain ⟨hcz26_0,hcz26_1,hcz26_2,hcz26_3⟩:=Yn BK266.out;obtain ⟨hfz26_0,hfz26_1,hfz26_2,hfz26_3⟩:=Yo BK266.out))
   go_ret
   exact ⟨rf_,bl_ HB⟩
 ·rw [if_neg c3] at H;have c3b0:(a0_0 == a1_0)=false:=beq_eq_false_iff_ne.mpr c3;have c3b1:(a0_0 != a1_0)=true:=bne_iff_ne.mpr c3;obtain rfl:=Option.some.inj H
  go_enter Tryd.func18,Tryd.ntmps18
  go_wp2_with (first|((with_reducible refine Xj (N:=2) rfl ?_);refine Xq ?hg (N:=2) ?hd (cs:=#[.int .i64 a0_0,.int .i64 a0_1,.int .i64 a0_2,.int .i64 a0_3]) (t:=36) ?hr ?_;(case hd=>rfl);(case hg=>rfl);(case hr=>first|(go_simp;done)|(go_simp;rfl));intro gb265 hg w27 hbox hb;have n0_:=Xa.mk (Xd (bl_ HB) hb);have n1_:=Xa.mk (hbox);have n2_:=Xa.mk ((by rw [hg];exact (Xc (bl_ HB)):w.heap.size≤gb265));have n3_:=Xa.mk ((by rw [hg];exact (Xc (bl_ HB)):w.heap.size≤gb265));clear HB;have HB:=n0_;have BK265:=n1_;have GW265:=n2_;have GE265:=n3_;clear n0_ n1_ n2_ n3_;clear hb hbox hg)|((with_reducible refine Xj (N:=3) rfl ?_);refine Xq ?hg (N:=3) ?hd (cs:=#[.int .i64 a1_0,.int .i64 a1_1,.int .i64 a1_2,.int .i64 a1_3]) (t:=36) ?hr ?_;(case hd=>rfl);(case hg=>rfl);(case hr=>first|(go_simp;done)|(go_simp;rfl));intro gb266 hg w28 hbox hb;have n0_:=Xa.mk (Xz (g:=gb265) (o:=.cells #[.int .i64 a0_0,.int .i64 a0_1,.int .i64 a0_2,.int .i64 a0_3] 36 (0,0)) (ba_ BK265) hb);have n1_:=Xa.mk (Xd (bl_ HB) hb);have n2_:=Xa.mk (hbox);have n3_:=Xa.mk ((by rw [hg];exact (Xc (bl_ HB)):w.heap.size≤gb266));have n4_:=Xa.mk ((by rw [hg];exact (Xc (bl_ HB)):w.heap.size≤gb266));have n5_:=Xa.mk ((by rw [hg];exact Nat.ne_of_lt (blk_lt (g:=gb265) (o:=.cells #[.int .i64 a0_0,.int .i64 a0_1,.int .i64 a0_2,.int .i64 a0_3] 36 (0,0)) (ba_ BK265)):gb265≠gb266));have n6_:=Xa.mk ((by rw [hg];exact Nat.ne_of_gt (blk_lt (g:=gb265) (o:=.cells #[.int .i64 a0_0,.int .i64 a0_1,.int .i64 a0_2,.int .i64 a0_3] 36 (0,0)) (ba_ BK265)):gb266≠gb265));clear BK265;clear HB;have BK265:=n0_;have HB:=n1_;have BK266:=n2_;have GW266:=n3_;have GE266:=n4_;have NB265_266:=n5_;have NB266_265:=n6_;clear n0_ n1_ n2_ n3_ n4_ n5_ n6_;clear hb hbox hg;have hnb29:=NB265_266.out;have hnc29:=NB266_265.out;obtain ⟨hcz30_0,hcz30_1,hcz30_2,hcz30_3⟩:=Yn BK265.out;obtain ⟨hfz30_0,hfz30_1,hfz30_2,hfz30_3⟩:=Yo BK265.out;obtain ⟨hcz31_0,hcz31_1,hcz31_2,hcz31_3⟩:=Yn BK266.out;obtain ⟨hfz31_0,hfz31_1,hfz31_2,hfz31_3⟩:=Yo BK266.out))
  go_ret
  exact ⟨rf_,bl_ HB⟩
def Xu.l0:Nat→List (S36)→List (S36)→Int→Option (Bool)
 |0,_,_,_=>none
 |k+1,x0,x1,x5=>if x5<(x0.length:Int) then (if 0≤x5 then (if x5<(x1.length:Int) then ((laws_eqIns.f ((Xb x0 x5).f0) ((Xb x0 x5).f1) ((Xb x0 x5).f2) ((Xb x0 x5).f3) ((Xb x1 x5).f0) ((Xb x1 x5).f1) ((Xb x1 x5).f2) ((Xb x1 x5).f3)).bind fun t269=>(if t269=true then (Xu.l0 k x0 x1 (wrap64 (x5+1))) else (some false))) else (none)) else (none)) else (some true)
def Xu.f (k:Nat) (l0:List (S36)) (l1:List (S36)):Option (Bool):=if (l0.length:Int)=(l1.length:Int) then (Xu.l0 k l0 l1 0) else (some false)
def Xu.T6:Bool × List (List Nat × List Nat):=(true,[([],[]),([],[]),([0,1],[0,1]),([2],[2]),([],[]),([],[]),([4,5],[4,5]),([6],[6]),([3,7],[3,7]),([8],[8])])
def Xu.B6:List Nat:=[0,0,3,7,0,0,48,112,255,511]
theorem Xu.tab6:rtab .any (opsOf Tryd.f9 6)=Xu.T6:=by kernel_rfl
theorem Xu.bits6:waitsOk Xu.T6.2 Xu.B6=true:=by kernel_rfl
set_option maxHeartbeats 8000000 in
set_option maxRecDepth 100000 in
theorem Xu.calls (k:Nat) (A0:Option Addr) (c0:Nat) (l0:List (S36)) (A1:Option Addr) (c1:Nat) (l1:List (S36)) (r:Bool) (w:World) (hr0:Kd.C k36 w A0 l0.length l0) (hc0:l0.length≤c0) (hr1:Kd.C k36 w A1 l1.length l1) (hc1:l1.length≤c1) (h:Xu.f k l0 l1=some r) :
  Calls Tryd.prog 9 #[.slice A0 l0.length c0,.slice A1 l1.length c1] w fun e w'=>e=.returned (.bool r)∧Below w.heap.size w w':=by
 have hu36:=Tryd.underlying36;have HR0:=Xa.mk hr0;have HC0:=Xa.mk hc0;clear hr0 hc0;have HR1:=Xa.mk hr1;have HC1:=Xa.mk hc1;clear hr1 hc1;have HB:=Xa.mk (Below.refl w.heap.size w);have H:(if (l0.length:Int)=(l1.length:Int) then (Xu.l0 k l0 l1 0) else (some false))=some r:=h;clear h;by_cases c3:(l0.length:Int)=(l1.length:Int)
 ·rw [if_pos c3] at H;have c3b0:((l0.length:Int) == (l1.length:Int))=true:=beq_iff_eq.mpr c3;have c3b1:((l0.length:Int) != (l1.length:Int))=false:=bne_eq_false_iff_eq.mpr c3
  have c3b2:(l0.length == l1.length)=true:=by first|simpa using c3|(simp at c3 ⊢;omega)
  clear c3;have H':=Xa.mk H;clear H
  go_enter Tryd.func9,Tryd.ntmps9
  go_wp2
  go_loopg [5] k (fun kq v5 w'=>∃ (x5_1:Int),v5=.int .i64 x5_1∧Xa (Xu.l0 kq l0 l1 x5_1=some r)∧Xa (kq≤k)∧Xa (Below w.heap.size w w'))
  case atStart=>exact ⟨(0),(by first|rfl|(simp;done)|(simp [*];done)),H',⟨Nat.le_refl _⟩,⟨bl_ HB⟩⟩
  case round=>
   clear H'
   try clear c1
   try clear p2
   try clear c3
   try clear c3b0
   try clear c3b1
   try clear c3b2
   obtain ⟨x5_1,rfl,HA,HK1,HB⟩:=hrel
   cases gk with
   |zero=>exact absurd HA.out (by simp [Xu.l0])
   |succ k1=>
    have H:=HA.out;clear HA;simp only [Xu.l0] at H;by_cases c4:x5_1<(l0.length:Int)
    ·rw [if_pos c4] at H;have c4b0:decide (x5_1<(l0.length:Int))=true:=decide_eq_true c4;clear c4;by_cases c5:0≤x5_1
     ·rw [if_pos c5] at H;have c5b0:decide (0≤x5_1)=true:=decide_eq_true c5;clear c5;by_cases c6:x5_1<(l1.length:Int)
      ·rw [if_pos c6] at H;have c6b0:decide (x5_1<(l1.length:Int))=true:=decide_eq_true c6;clear c6;replace H:=Option.bind_eq_some_iff.mp H;obtain ⟨t269,A70,H⟩:=H;replace H:(if t269=true then (Xu.l0 k1 l0 l1 (wrap64 (x5_1+1))) else (some false))=some r:=H;have A7:=Xa.mk A70;clear A70;by_cases c8:t269=true
       ·subst c8
        have H1:(Xu.l0 k1 l0 l1 (wrap64 (x5_1+1)))=some r:=by rw [if_pos rfl] at H;exact H
        clear H;have H:=H1;clear H1;have H':=Xa.mk H;clear H
        try go_wp2
        have n0_:=Xa.mk (below_drew1 HB.out);clear HB;have HB:=n0_;clear n0_;have p267:0≤(x5_1:Int):=of_decide_eq_true (by first|(with_reducible assumption)|assumption);have q267:x5_1<(l0.length:Int):=of_decide_eq_true (by first|(with_reducible assumption)|assumption);obtain ⟨ad267,e267,hx267_0,hx267_1,hx267_2,hx267_3⟩:=at_T36 HR0.out x5_1 p267 q267;have hw267_3:=hx267_3;have hw267_2:=hx267_2;have hw267_1:=hx267_1;have hw267_0:=hx267_0;cases e267
        replace hx267_0:=(HB.out.cell (World.block_lt_of_cell? w _ hx267_0)).trans hx267_0;replace hx267_1:=(HB.out.cell (World.block_lt_of_cell? w _ hx267_1)).trans hx267_1;replace hx267_2:=(HB.out.cell (World.block_lt_of_cell? w _ hx267_2)).trans hx267_2;replace hx267_3:=(HB.out.cell (World.block_lt_of_cell? w _ hx267_3)).trans hx267_3;replace p267:=eq_true p267;replace q267:=eq_true q267;have p268:0≤(x5_1:Int):=of_decide_eq_true (by first|(with_reducible assumption)|assumption);have q268:x5_1<(l1.length:Int):=of_decide_eq_true (by first|(with_reducible assumption)|assumption);obtain ⟨ad268,e268,hx268_0,hx268_1,hx268_2,hx268_3⟩:=at_T36 HR1.out x5_1 p268 q268;have hw268_3:=hx268_3;have hw268_2:=hx268_2;have hw268_1:=hx268_1;have hw268_0:=hx268_0;cases e268
        replace hx268_0:=(HB.out.cell (World.block_lt_of_cell? w _ hx268_0)).trans hx268_0;replace hx268_1:=(HB.out.cell (World.block_lt_of_cell? w _ hx268_1)).trans hx268_1;replace hx268_2:=(HB.out.cell (World.block_lt_of_cell? w _ hx268_2)).trans hx268_2;replace hx268_3:=(HB.out.cell (World.block_lt_of_cell? w _ hx268_3)).trans hx268_3;replace p268:=eq_true p268;replace q268:=eq_true q268;refine start_ (n:=10) (S:=fun w'=>w'.cell? (ad267.add ((x5_1).toNat * 4))=some (.int .i64 ((Xb l0 x5_1).f0))∧w'.cell? ⟨(ad267.add ((x5_1).toNat * 4)).block,(ad267.add ((x5_1).toNat * 4)).off+1,none⟩=some (.int .i64 ((Xb l0 x5_1).f1))∧w'.cell? ⟨(ad267.add ((x5_1).toNat * 4)).block,(ad267.add ((x5_1).toNat * 4)).off+2,none⟩=some (.int .i64 ((Xb l0 x5_1).f2))∧w'.cell? ⟨(ad267.add ((x5_1).toNat * 4)).block,(ad267.add ((x5_1).toNat * 4)).off+3,none⟩=some (.int .i64 ((Xb l0 x5_1).f3))∧w'.cell? (ad268.add ((x5_1).toNat * 4))=some (.int .i64 ((Xb l1 x5_1).f0))∧w'.cell? ⟨(ad268.add ((x5_1).toNat * 4)).block,(ad268.add ((x5_1).toNat * 4)).off+1,none⟩=some (.int .i64 ((Xb l1 x5_1).f1))∧w'.cell? ⟨(ad268.add ((x5_1).toNat * 4)).block,(ad268.add ((x5_1).toNat * 4)).off+2,none⟩=some (.int .i64 ((Xb l1 x5_1).f2))∧w'.cell? ⟨(ad268.add ((x5_1).toNat * 4)).block,(ad268.add ((x5_1).toNat * 4)).off+3,none⟩=some (.int .i64 ((Xb l1 x5_1).f3))) (ds:=[]) #[false,false,false,false,false,false,false,false,false,false] (by kernel_rfl) rfl rfl ⟨((HB.out.cell (World.block_lt_of_cell? w _ hw267_0)).trans hw267_0),((HB.out.cell (World.block_lt_of_cell? w _ hw267_1)).trans hw267_1),((HB.out.cell (World.block_lt_of_cell? w _ hw267_2)).trans hw267_2),((HB.out.cell (World.block_lt_of_cell? w _ hw267_3)).trans hw267_3),((HB.out.cell (World.block_lt_of_cell? w _ hw268_0)).trans hw268_0),((HB.out.cell (World.block_lt_of_cell? w _ hw268_1)).trans hw268_1),((HB.out.cell (World.block_lt_of_cell? w _ hw268_2)).trans hw268_2),((HB.out.cell (World.block_lt_of_cell? w _ hw268_3)).trans hw268_3)⟩ (fun hHeld=>?_);refine with_tabW Xu.tab6 Xu.bits6 (fun HT_ HW_=>?_)
        generalize wr.drew=w9 at HB hx267_0 hx267_1 hx267_2 hx267_3 hx268_0 hx268_1 hx268_2 hx268_3 hHeld ⊢
        refine Yc (i:=0) (N:=some 17) (v:=?_) (a':=?_) #[true,false,false,false,false,false,false,false,false,false] rfl rfl (Ya HT_.out (by kernel_rfl)) (fun _ _ _ h=>h) (Or.inl ⟨by rfl,?_⟩) ?_ ?_
        rotate_left
        ·intro w';go_simp
         with_reducible rfl
        rotate_left
        ·simp only [Act.put,List.setIfInBounds_toArray,List.set_cons_zero,List.set_cons_succ,Xo,Xp];rfl
        refine Yc (i:=1) (N:=some 18) (v:=?_) (a':=?_) #[true,true,false,false,false,false,false,false,false,false] rfl rfl (Ya HT_.out (by kernel_rfl)) (fun _ _ _ h=>h) (Or.inl ⟨by rfl,?_⟩) ?_ ?_
        rotate_left
        ·intro w';go_simp
         with_reducible rfl
        rotate_left
        ·simp only [Act.put,List.setIfInBounds_toArray,List.set_cons_zero,List.set_cons_succ,Xo,Xp];rfl
        refine Yc (i:=2) (N:=some 19) (v:=?_) (a':=?_) #[true,true,true,false,false,false,false,false,false,false] rfl rfl (Ya HT_.out (by kernel_rfl)) (fun _ _ _ h=>h) (Or.inl ⟨by rfl,?_⟩) ?_ ?_
        rotate_left
        ·intro w';go_simp
         with_reducible rfl
        rotate_left
        ·simp only [Act.put,List.setIfInBounds_toArray,List.set_cons_zero,List.set_cons_succ,Xo,Xp];rfl
        refine Yc (i:=4) (N:=some 21) (v:=?_) (a':=?_) #[true,true,true,false,true,false,false,false,false,false] rfl rfl (Ya HT_.out (by kernel_rfl)) (fun _ _ _ h=>h) (Or.inl ⟨by rfl,?_⟩) ?_ ?_
        rotate_left
        ·intro w';go_simp
         with_reducible rfl
        rotate_left
        ·simp only [Act.put,List.setIfInBounds_toArray,List.set_cons_zero,List.set_cons_succ,Xo,Xp];rfl
        refine Yc (i:=5) (N:=some 22) (v:=?_) (a':=?_) #[true,true,true,false,true,true,false,false,false,false] rfl rfl (Ya HT_.out (by kernel_rfl)) (fun _ _ _ h=>h) (Or.inl ⟨by rfl,?_⟩) ?_ ?_
        rotate_left
        ·intro w';go_simp
         with_reducible rfl
        rotate_left
        ·simp only [Act.put,List.setIfInBounds_toArray,List.set_cons_zero,List.set_cons_succ,Xo,Xp];rfl
        refine Yc (i:=6) (N:=some 23) (v:=?_) (a':=?_) #[true,true,true,false,true,true,true,false,false,false] rfl rfl (Ya HT_.out (by kernel_rfl)) (fun _ _ _ h=>h) (Or.inl ⟨by rfl,?_⟩) ?_ ?_
        rotate_left
        ·intro w';go_simp
         with_reducible rfl
        rotate_left
        ·simp only [Act.put,List.setIfInBounds_toArray,List.set_cons_zero,List.set_cons_succ,Xo,Xp];rfl
        refine take_ (i:=3) (N:=some 20) (v:=?_) (a':=?_) #[true,true,true,true,true,true,true,false,false,false] rfl rfl (take_ofW HT_.out HW_.out (by kernel_rfl)) (fun _ _ _ h=>h) (Or.inl ⟨by rfl,?_⟩) hHeld ?_ ?_
        rotate_left
        ·rintro w' ⟨s0,s1,s2,s3,s4,s5,s6,s7⟩
         go_simp
         with_reducible rfl
        rotate_left
        ·simp only [Act.put,List.setIfInBounds_toArray,List.set_cons_zero,List.set_cons_succ,Xo,Xp];rfl
        refine take_ (i:=7) (N:=some 24) (v:=?_) (a':=?_) #[true,true,true,true,true,true,true,true,false,false] rfl rfl (take_ofW HT_.out HW_.out (by kernel_rfl)) (fun _ _ _ h=>h) (Or.inl ⟨by rfl,?_⟩) hHeld ?_ ?_
        rotate_left
        ·rintro w' ⟨s0,s1,s2,s3,s4,s5,s6,s7⟩
         go_simp
         with_reducible rfl
        rotate_left
        ·simp only [Act.put,List.setIfInBounds_toArray,List.set_cons_zero,List.set_cons_succ,Xo,Xp];rfl
        refine one_ (i:=8) (N:=some 25) #[true,true,true,true,true,true,true,true,true,false] rfl rfl (one_of HT_.out (by kernel_rfl)) (by decide) (fun K hK=>?_)
        refine goes_ Tryd.func18 (by kernel_rfl) rfl #[.agg #[.int .i64 ((Xb l0 x5_1).f0),.int .i64 ((Xb l0 x5_1).f1),.int .i64 ((Xb l0 x5_1).f2),.int .i64 ((Xb l0 x5_1).f3)],.agg #[.int .i64 ((Xb l1 x5_1).f0),.int .i64 ((Xb l1 x5_1).f1),.int .i64 ((Xb l1 x5_1).f2),.int .i64 ((Xb l1 x5_1).f3)]] (by rfl) rfl rfl ga_ ?_
        with_reducible refine (laws_eqIns.calls ((Xb l0 x5_1).f0) ((Xb l0 x5_1).f1) ((Xb l0 x5_1).f2) ((Xb l0 x5_1).f3) ((Xb l1 x5_1).f0) ((Xb l1 x5_1).f1) ((Xb l1 x5_1).f2) ((Xb l1 x5_1).f3) true _ A7.out).mono ?_
        rintro e w10 ⟨rfl,hb⟩
        refine ⟨_,rfl,?_⟩
        have n0_:=Xa.mk (Xd (bl_ HB) hb);clear HB;have HB:=n0_;clear n0_
        (try clear hb)
        (try clear hb2)
        (try clear hk)
        (try clear hi)
        refine hK.out _ _ ⟨((HB.out.cell (World.block_lt_of_cell? w _ hw267_0)).trans hw267_0),((HB.out.cell (World.block_lt_of_cell? w _ hw267_1)).trans hw267_1),((HB.out.cell (World.block_lt_of_cell? w _ hw267_2)).trans hw267_2),((HB.out.cell (World.block_lt_of_cell? w _ hw267_3)).trans hw267_3),((HB.out.cell (World.block_lt_of_cell? w _ hw268_0)).trans hw268_0),((HB.out.cell (World.block_lt_of_cell? w _ hw268_1)).trans hw268_1),((HB.out.cell (World.block_lt_of_cell? w _ hw268_2)).trans hw268_2),((HB.out.cell (World.block_lt_of_cell? w _ hw268_3)).trans hw268_3)⟩ (fun hHeld=>?_)
        clear hK K;refine norm_ (a':=?_) ?_ ?_
        rotate_left
        ·show Act.put _ (some 25) _=_
         simp only [Act.put,List.setIfInBounds_toArray,List.set_cons_zero,List.set_cons_succ,Xo,Xp];rfl
        refine Yc (i:=9) (N:=some 26) (v:=?_) (a':=?_) #[true,true,true,true,true,true,true,true,true,true] rfl rfl (Ya HT_.out (by kernel_rfl)) (fun _ _ _ h=>h) (Or.inl ⟨by rfl,?_⟩) ?_ ?_
        rotate_left
        ·intro w';go_simp
         with_reducible rfl
        rotate_left
        ·simp only [Act.put,List.setIfInBounds_toArray,List.set_cons_zero,List.set_cons_succ,Xo,Xp];rfl
        refine done_ (done_of HT_.out (by kernel_rfl)) ?_
        try go_wp2
        go_roundg k1
        case measure=>have:=HK1.out;omega
        case rel=>exact ⟨(wrap64 (x5_1+1)),(by first|rfl|(simp;done)|(simp [*];done)),H',⟨by have:=HK1.out;omega⟩,⟨bl_ HB⟩⟩
       ·replace c8:=Bool.eq_false_iff.mpr c8;subst c8
        have H1:(some false)=some r:=by rw [if_neg (show ¬ (false=true) by decide)] at H;exact H
        clear H;have H:=H1;clear H1;obtain rfl:=Option.some.inj H
        try go_wp2
        have n0_:=Xa.mk (below_drew1 HB.out);clear HB;have HB:=n0_;clear n0_;have p267:0≤(x5_1:Int):=of_decide_eq_true (by first|(with_reducible assumption)|assumption);have q267:x5_1<(l0.length:Int):=of_decide_eq_true (by first|(with_reducible assumption)|assumption);obtain ⟨ad267,e267,hx267_0,hx267_1,hx267_2,hx267_3⟩:=at_T36 HR0.out x5_1 p267 q267;have hw267_3:=hx267_3;have hw267_2:=hx267_2;have hw267_1:=hx267_1;have hw267_0:=hx267_0;cases e267
        replace hx267_0:=(HB.out.cell (World.block_lt_of_cell? w _ hx267_0)).trans hx267_0;replace hx267_1:=(HB.out.cell (World.block_lt_of_cell? w _ hx267_1)).trans hx267_1;replace hx267_2:=(HB.out.cell (World.block_lt_of_cell? w _ hx267_2)).trans hx267_2;replace hx267_3:=(HB.out.cell (World.block_lt_of_cell? w _ hx267_3)).trans hx267_3;replace p267:=eq_true p267;replace q267:=eq_true q267;have p268:0≤(x5_1:Int):=of_decide_eq_true (by first|(with_reducible assumption)|assumption);have q268:x5_1<(l1.length:Int):=of_decide_eq_true (by first|(with_reducible assumption)|assumption);obtain ⟨ad268,e268,hx268_0,hx268_1,hx268_2,hx268_3⟩:=at_T36 HR1.out x5_1 p268 q268;have hw268_3:=hx268_3;have hw268_2:=hx268_2;have hw268_1:=hx268_1;have hw268_0:=hx268_0;cases e268
        replace hx268_0:=(HB.out.cell (World.block_lt_of_cell? w _ hx268_0)).trans hx268_0;replace hx268_1:=(HB.out.cell (World.block_lt_of_cell? w _ hx268_1)).trans hx268_1;replace hx268_2:=(HB.out.cell (World.block_lt_of_cell? w _ hx268_2)).trans hx268_2;replace hx268_3:=(HB.out.cell (World.block_lt_of_cell? w _ hx268_3)).trans hx268_3;replace p268:=eq_true p268;replace q268:=eq_true q268;refine start_ (n:=10) (S:=fun w'=>w'.cell? (ad267.add ((x5_1).toNat * 4))=some (.int .i64 ((Xb l0 x5_1).f0))∧w'.cell? ⟨(ad267.add ((x5_1).toNat * 4)).block,(ad267.add ((x5_1).toNat * 4)).off+1,none⟩=some (.int .i64 ((Xb l0 x5_1).f1))∧w'.cell? ⟨(ad267.add ((x5_1).toNat * 4)).block,(ad267.add ((x5_1).toNat * 4)).off+2,none⟩=some (.int .i64 ((Xb l0 x5_1).f2))∧w'.cell? ⟨(ad267.add ((x5_1).toNat * 4)).block,(ad267.add ((x5_1).toNat * 4)).off+3,none⟩=some (.int .i64 ((Xb l0 x5_1).f3))∧w'.cell? (ad268.add ((x5_1).toNat * 4))=some (.int .i64 ((Xb l1 x5_1).f0))∧w'.cell? ⟨(ad268.add ((x5_1).toNat * 4)).block,(ad268.add ((x5_1).toNat * 4)).off+1,none⟩=some (.int .i64 ((Xb l1 x5_1).f1))∧w'.cell? ⟨(ad268.add ((x5_1).toNat * 4)).block,(ad268.add ((x5_1).toNat * 4)).off+2,none⟩=some (.int .i64 ((Xb l1 x5_1).f2))∧w'.cell? ⟨(ad268.add ((x5_1).toNat * 4)).block,(ad268.add ((x5_1).toNat * 4)).off+3,none⟩=some (.int .i64 ((Xb l1 x5_1).f3))) (ds:=[]) #[false,false,false,false,false,false,false,false,false,false] (by kernel_rfl) rfl rfl ⟨((HB.out.cell (World.block_lt_of_cell? w _ hw267_0)).trans hw267_0),((HB.out.cell (World.block_lt_of_cell? w _ hw267_1)).trans hw267_1),((HB.out.cell (World.block_lt_of_cell? w _ hw267_2)).trans hw267_2),((HB.out.cell (World.block_lt_of_cell? w _ hw267_3)).trans hw267_3),((HB.out.cell (World.block_lt_of_cell? w _ hw268_0)).trans hw268_0),((HB.out.cell (World.block_lt_of_cell? w _ hw268_1)).trans hw268_1),((HB.out.cell (World.block_lt_of_cell? w _ hw268_2)).trans hw268_2),((HB.out.cell (World.block_lt_of_cell? w _ hw268_3)).trans hw268_3)⟩ (fun hHeld=>?_);refine with_tabW Xu.tab6 Xu.bits6 (fun HT_ HW_=>?_)
        generalize wr.drew=w11 at HB hx267_0 hx267_1 hx267_2 hx267_3 hx268_0 hx268_1 hx268_2 hx268_3 hHeld ⊢
        refine Yc (i:=0) (N:=some 17) (v:=?_) (a':=?_) #[true,false,false,false,false,false,false,false,false,false] rfl rfl (Ya HT_.out (by kernel_rfl)) (fun _ _ _ h=>h) (Or.inl ⟨by rfl,?_⟩) ?_ ?_
        rotate_left
        ·intro w';go_simp
         with_reducible rfl
        rotate_left
        ·simp only [Act.put,List.setIfInBounds_toArray,List.set_cons_zero,List.set_cons_succ,Xo,Xp];rfl
        refine Yc (i:=1) (N:=some 18) (v:=?_) (a':=?_) #[true,true,false,false,false,false,false,false,false,false] rfl rfl (Ya HT_.out (by kernel_rfl)) (fun _ _ _ h=>h) (Or.inl ⟨by rfl,?_⟩) ?_ ?_
        rotate_left
        ·intro w';go_simp
         with_reducible rfl
        rotate_left
        ·simp only [Act.put,List.setIfInBounds_toArray,List.set_cons_zero,List.set_cons_succ,Xo,Xp];rfl
        refine Yc (i:=2) (N:=some 19) (v:=?_) (a':=?_) #[true,true,true,false,false,false,false,false,false,false] rfl rfl (Ya HT_.out (by kernel_rfl)) (fun _ _ _ h=>h) (Or.inl ⟨by rfl,?_⟩) ?_ ?_
        rotate_left
        ·intro w';go_simp
         with_reducible rfl
        rotate_left
        ·simp only [Act.put,List.setIfInBounds_toArray,List.set_cons_zero,List.set_cons_succ,Xo,Xp];rfl
        refine Yc (i:=4) (N:=some 21) (v:=?_) (a':=?_) #[true,true,true,false,true,false,false,false,false,false] rfl rfl (Ya HT_.out (by kernel_rfl)) (fun _ _ _ h=>h) (Or.inl ⟨by rfl,?_⟩) ?_ ?_
        rotate_left
        ·intro w';go_simp
         with_reducible rfl
        rotate_left
        ·simp only [Act.put,List.setIfInBounds_toArray,List.set_cons_zero,List.set_cons_succ,Xo,Xp];rfl
        refine Yc (i:=5) (N:=some 22) (v:=?_) (a':=?_) #[true,true,true,false,true,true,false,false,false,false] rfl rfl (Ya HT_.out (by kernel_rfl)) (fun _ _ _ h=>h) (Or.inl ⟨by rfl,?_⟩) ?_ ?_
        rotate_left
        ·intro w';go_simp
         with_reducible rfl
        rotate_left
        ·simp only [Act.put,List.setIfInBounds_toArray,List.set_cons_zero,List.set_cons_succ,Xo,Xp];rfl
        refine Yc (i:=6) (N:=some 23) (v:=?_) (a':=?_) #[true,true,true,false,true,true,true,false,false,false] rfl rfl (Ya HT_.out (by kernel_rfl)) (fun _ _ _ h=>h) (Or.inl ⟨by rfl,?_⟩) ?_ ?_
        rotate_left
        ·intro w';go_simp
         with_reducible rfl
        rotate_left
        ·simp only [Act.put,List.setIfInBounds_toArray,List.set_cons_zero,List.set_cons_succ,Xo,Xp];rfl
        refine take_ (i:=3) (N:=some 20) (v:=?_) (a':=?_) #[true,true,true,true,true,true,true,false,false,false] rfl rfl (take_ofW HT_.out HW_.out (by kernel_rfl)) (fun _ _ _ h=>h) (Or.inl ⟨by rfl,?_⟩) hHeld ?_ ?_
        rotate_left
        ·rintro w' ⟨s0,s1,s2,s3,s4,s5,s6,s7⟩
         go_simp
         with_reducible rfl
        rotate_left
        ·simp only [Act.put,List.setIfInBounds_toArray,List.set_cons_zero,List.set_cons_succ,Xo,Xp];rfl
        refine take_ (i:=7) (N:=some 24) (v:=?_) (a':=?_) #[true,true,true,true,true,true,true,true,false,false] rfl rfl (take_ofW HT_.out HW_.out (by kernel_rfl)) (fun _ _ _ h=>h) (Or.inl ⟨by rfl,?_⟩) hHeld ?_ ?_
        rotate_left
        ·rintro w' ⟨s0,s1,s2,s3,s4,s5,s6,s7⟩
         go_simp
         with_reducible rfl
        rotate_left
        ·simp only [Act.put,List.setIfInBounds_toArray,List.set_cons_zero,List.set_cons_succ,Xo,Xp];rfl
        refine one_ (i:=8) (N:=some 25) #[true,true,true,true,true,true,true,true,true,false] rfl rfl (one_of HT_.out (by kernel_rfl)) (by decide) (fun K hK=>?_)
        refine goes_ Tryd.func18 (by kernel_rfl) rfl #[.agg #[.int .i64 ((Xb l0 x5_1).f0),.int .i64 ((Xb l0 x5_1).f1),.int .i64 ((Xb l0 x5_1).f2),.int .i64 ((Xb l0 x5_1).f3)],.agg #[.int .i64 ((Xb l1 x5_1).f0),.int .i64 ((Xb l1 x5_1).f1),.int .i64 ((Xb l1 x5_1).f2),.int .i64 ((Xb l1 x5_1).f3)]] (by rfl) rfl rfl ga_ ?_
        with_reducible refine (laws_eqIns.calls ((Xb l0 x5_1).f0) ((Xb l0 x5_1).f1) ((Xb l0 x5_1).f2) ((Xb l0 x5_1).f3) ((Xb l1 x5_1).f0) ((Xb l1 x5_1).f1) ((Xb l1 x5_1).f2) ((Xb l1 x5_1).f3) false _ A7.out).mono ?_
        rintro e w12 ⟨rfl,hb⟩
        refine ⟨_,rfl,?_⟩
        have n0_:=Xa.mk (Xd (bl_ HB) hb);clear HB;have HB:=n0_;clear n0_
        (try clear hb)
        (try clear hb2)
        (try clear hk)
        (try clear hi)
        refine hK.out _ _ ⟨((HB.out.cell (World.block_lt_of_cell? w _ hw267_0)).trans hw267_0),((HB.out.cell (World.block_lt_of_cell? w _ hw267_1)).trans hw267_1),((HB.out.cell (World.block_lt_of_cell? w _ hw267_2)).trans hw267_2),((HB.out.cell (World.block_lt_of_cell? w _ hw267_3)).trans hw267_3),((HB.out.cell (World.block_lt_of_cell? w _ hw268_0)).trans hw268_0),((HB.out.cell (World.block_lt_of_cell? w _ hw268_1)).trans hw268_1),((HB.out.cell (World.block_lt_of_cell? w _ hw268_2)).trans hw268_2),((HB.out.cell (World.block_lt_of_cell? w _ hw268_3)).trans hw268_3)⟩ (fun hHeld=>?_)
        clear hK K;refine norm_ (a':=?_) ?_ ?_
        rotate_left
        ·show Act.put _ (some 25) _=_
         simp only [Act.put,List.setIfInBounds_toArray,List.set_cons_zero,List.set_cons_succ,Xo,Xp];rfl
        refine Yc (i:=9) (N:=some 26) (v:=?_) (a':=?_) #[true,true,true,true,true,true,true,true,true,true] rfl rfl (Ya HT_.out (by kernel_rfl)) (fun _ _ _ h=>h) (Or.inl ⟨by rfl,?_⟩) ?_ ?_
        rotate_left
        ·intro w';go_simp
         with_reducible rfl
        rotate_left
        ·simp only [Act.put,List.setIfInBounds_toArray,List.set_cons_zero,List.set_cons_succ,Xo,Xp];rfl
        refine done_ (done_of HT_.out (by kernel_rfl)) ?_
        try go_wp2
        go_ret
        exact ⟨rf_,bl_ HB⟩
      ·rw [if_neg c6] at H;exact absurd H (by simp)
     ·rw [if_neg c5] at H;exact absurd H (by simp)
    ·rw [if_neg c4] at H;have c4b0:decide (x5_1<(l0.length:Int))=false:=decide_eq_false c4;clear c4;obtain rfl:=Option.some.inj H;go_wp2
     go_ret
     exact ⟨rf_,bl_ HB⟩
 ·rw [if_neg c3] at H;have c3b0:((l0.length:Int) == (l1.length:Int))=false:=beq_eq_false_iff_ne.mpr c3;have c3b1:((l0.length:Int) != (l1.length:Int))=true:=bne_iff_ne.mpr c3
  have c3b2:(l0.length == l1.length)=false:=by first|simpa using c3|(simp at c3 ⊢;omega)
  obtain rfl:=Option.some.inj H
  go_enter Tryd.func9,Tryd.ntmps9
  go_wp2
  go_ret
  exact ⟨rf_,bl_ HB⟩
end Go.Proofs.YtdkcjecllbdljaaDoor.GCode
