import Derived.Test.YtdkcjecllbdljaaDoorCFnCodeLines0
import Derived.Test.YtdkcjecllbdljaaDoorCFnCodeLines22
import Derived.Test.YtdkcjecllbdljaaDoorCFnCodeLines38
import Derived.Test.YtdkcjecllbdljaaDoorCFnCodeLines41
namespace Go.Proofs.YtdkcjecllbdljaaDoor.GCode
open Go.RowKit Go.Proofs.YtdkcjecllbdljaaDoorW.PrintWords Go.Proofs.YtdkcjecllbdljaaDoorW.PrintLast Go.Proofs.YtdkcjecllbdljaaDoorW.PrintMore
attribute [local go_sem] Zy Ua Uo Uq Zp Zq Zz Ub
set_option linter.unusedVariables false
set_option linter.unusedSimpArgs false
def Zf.l0:Nat→ByteArray→List (S36)→Int→Int→Option (ByteArray)
 |0,_,_,_,_=>none
 |k+1,x3,x9,x10,x11=>if x11<x10 then (if 0≤x11 then (if x11<(x9.length:Int) then ((Yt.f k ((Xb x9 x11).f0) ((Xb x9 x11).f1) ((Xb x9 x11).f2) ((Xb x9 x11).f3)).bind fun t264=>(if t264.size+1≤9223372036854775807 then (if x3.size+(t264 ++ (⟨#[10]⟩:ByteArray)).size≤9223372036854775807 then (Zf.l0 k (x3 ++ (t264 ++ (⟨#[10]⟩:ByteArray))) x9 x10 (wrap64 (x11+1))) else (none)) else (none))) else (none)) else (none)) else (some x3)
def Zf.f (k:Nat) (l0:List (S36)):Option (ByteArray):=(Za.f k l0).bind fun t261=>(if t261=true then (Zf.l0 k (⟨#[]⟩:ByteArray) l0 (l0.length:Int) 0) else (some (⟨#[]⟩:ByteArray)))
set_option maxHeartbeats 8000000 in
set_option maxRecDepth 100000 in
theorem Zf.calls (k:Nat) (A0:Option Addr) (c0:Nat) (l0:List (S36)) (r:ByteArray) (w:World) (hr0:Kd.C k36 w A0 l0.length l0) (hc0:l0.length≤c0) (h:Zf.f k l0=some r) (ht:Go.Proofs.YtdkcjecllbdljaaDoor.Shelf2.Tab w) :
  Calls Tryd.prog 8 #[.slice A0 l0.length c0] w fun e w'=>e=.returned (.string r)∧Below w.heap.size w w':=by
 have HT:=Xa.mk ht;clear ht;have hu36:=Tryd.underlying36;have HR0:=Xa.mk hr0;have HC0:=Xa.mk hc0;clear hr0 hc0;have HB:=Xa.mk (Below.refl w.heap.size w);have H:((Za.f k l0).bind fun t261=>(if t261=true then (Zf.l0 k (⟨#[]⟩:ByteArray) l0 (l0.length:Int) 0) else (some (⟨#[]⟩:ByteArray))))=some r:=h;clear h;replace H:=Option.bind_eq_some_iff.mp H;obtain ⟨t261,A20,H⟩:=H;replace H:(if t261=true then (Zf.l0 k (⟨#[]⟩:ByteArray) l0 (l0.length:Int) 0) else (some (⟨#[]⟩:ByteArray)))=some r:=H;have A2:=Xa.mk A20;clear A20;by_cases c3:t261=true
 ·subst c3
  have H1:(Zf.l0 k (⟨#[]⟩:ByteArray) l0 (l0.length:Int) 0)=some r:=by rw [if_pos rfl] at H;exact H
  clear H;have H:=H1;clear H1;have H':=Xa.mk H;clear H
  go_enter Tryd.func8,Tryd.ntmps8
  go_wp2_with (first|((with_reducible refine Xj (f:=16) rfl ?_);refine Yu (some 7) rfl rfl Tryd.func16 (by kernel_rfl) rfl #[.slice A0 l0.length c0] rfl ga_ ?_;(with_reducible refine (Za.calls k _ _ l0 true _ ?side1 ?side2 A2.out).mono ?_);(case side1=>repeat (first|exact HR0.out|(with_reducible refine Kd.Yc ?_ _)|(with_reducible refine Kd.Yd ?_ _)|(with_reducible refine Kd.Yo ?_)));(case side2=>exact HC0.out);rintro e w4 ⟨rfl,hb⟩;refine ⟨_,rfl,?_⟩;have n0_:=Xa.mk (Xc (bl_ HB) hb);clear HB;have HB:=n0_;clear n0_;(try clear hb);(try clear hb2);(try clear hk);(try clear hi)))
  go_loopg [3,11] k (fun kq v3 v11 w'=>∃ (x3_1:ByteArray) (x11_1:Int),v3=.string x3_1∧v11=.int .i64 x11_1∧Xa (Zf.l0 kq x3_1 l0 (l0.length:Int) x11_1=some r)∧Xa (kq≤k)∧Xa (Below w.heap.size w w'))
  case atStart=>exact ⟨((⟨#[]⟩:ByteArray)),(0),(by first|rfl|(simp;done)|(simp [*];done)),(by first|rfl|(simp;done)|(simp [*];done)),H',⟨Nat.le_refl _⟩,⟨bl_ HB⟩⟩
  case round=>
   clear H'
   try clear c1
   try clear p2
   try clear c3
   obtain ⟨x3_1,x11_1,rfl,rfl,HA,HK1,HB⟩:=hrel
   cases gk with
   |zero=>exact absurd HA.out (by simp [Zf.l0])
   |succ k1=>
    have H:=HA.out;clear HA;simp only [Zf.l0] at H;by_cases c5:x11_1<(l0.length:Int)
    ·rw [if_pos c5] at H;have c5b0:decide (x11_1<(l0.length:Int))=true:=decide_eq_true c5;clear c5;by_cases c6:0≤x11_1
     ·rw [if_pos c6] at H;have c6b0:decide (0≤x11_1)=true:=decide_eq_true c6;clear c6;by_cases c7:x11_1<(l0.length:Int)
      ·rw [if_pos c7] at H;have c7b0:decide (x11_1<(l0.length:Int))=true:=decide_eq_true c7;clear c7;replace H:=Option.bind_eq_some_iff.mp H;obtain ⟨t264,A80,H⟩:=H;replace H:(if t264.size+1≤9223372036854775807 then (if x3_1.size+(t264 ++ (⟨#[10]⟩:ByteArray)).size≤9223372036854775807 then (Zf.l0 k1 (x3_1 ++ (t264 ++ (⟨#[10]⟩:ByteArray))) l0 (l0.length:Int) (wrap64 (x11_1+1))) else (none)) else (none))=some r:=H;have A8:=Xa.mk A80;clear A80;by_cases c9:t264.size+1≤9223372036854775807
       ·rw [if_pos c9] at H;have c9b0:=eq_true c9;have c9b1:decide (t264.size+1≤9223372036854775807)=true:=decide_eq_true c9
        try have c9b2:(9223372036854775807<t264.size+1)=False:=eq_false (Nat.not_lt.2 c9)
        by_cases c10:x3_1.size+(t264 ++ (⟨#[10]⟩:ByteArray)).size≤9223372036854775807
        ·rw [if_pos c10] at H;have c10b0:=eq_true c10;have c10b1:decide (x3_1.size+(t264 ++ (⟨#[10]⟩:ByteArray)).size≤9223372036854775807)=true:=decide_eq_true c10
         have c10s:x3_1.size+(t264.size+1)≤9223372036854775807:=by have h_:=c10;simp only [ByteArray.size_append] at h_;exact h_
         have c10s0:=eq_true c10s;have c10s1:decide (x3_1.size+(t264.size+1)≤9223372036854775807)=true:=decide_eq_true c10s
         try have c10s2:(9223372036854775807<x3_1.size+(t264.size+1))=False:=eq_false (Nat.not_lt.2 c10s)
         try have c10b2:(9223372036854775807<x3_1.size+(t264 ++ (⟨#[10]⟩:ByteArray)).size)=False:=eq_false (Nat.not_lt.2 c10)
         have H':=Xa.mk H;clear H;have p262:0≤(x11_1:Int):=of_decide_eq_true (by first|(with_reducible assumption)|assumption);have q262:x11_1<(l0.length:Int):=of_decide_eq_true (by first|(with_reducible assumption)|assumption);obtain ⟨ad262,e262,hx262_0,hx262_1,hx262_2,hx262_3⟩:=at_T36 HR0.out x11_1 p262 q262;cases e262
         replace hx262_0:=(HB.out.cell (World.block_lt_of_cell? w _ hx262_0)).trans hx262_0;replace hx262_1:=(HB.out.cell (World.block_lt_of_cell? w _ hx262_1)).trans hx262_1;replace hx262_2:=(HB.out.cell (World.block_lt_of_cell? w _ hx262_2)).trans hx262_2;replace hx262_3:=(HB.out.cell (World.block_lt_of_cell? w _ hx262_3)).trans hx262_3;replace p262:=eq_true p262;replace q262:=eq_true q262;go_wp2_with (first|((with_reducible refine Xq (N:=5) rfl ?_);refine Yq ?hg (N:=5) ?hd (cs:=#[.int .i64 0,.int .i64 0,.int .i64 0,.int .i64 0]) (t:=36) ?hr ?_;(case hd=>rfl);(case hg=>rfl);(case hr=>first|(go_simp;done)|(go_simp;rfl));intro gb263 hg w11 hbox hb;have n0_:=Xa.mk (Xc (bl_ HB) hb);have n1_:=Xa.mk (hbox);have n2_:=Xa.mk ((by rw [hg];exact (Xd (bl_ HB)):w.heap.size≤gb263));have n3_:=Xa.mk ((by rw [hg];exact (Xd (bl_ HB)):w.heap.size≤gb263));clear HB;have HB:=n0_;have BK263:=n1_;have GW263:=n2_;have GE263:=n3_;clear n0_ n1_ n2_ n3_;clear hb hbox hg;obtain ⟨hcz12_0,hcz12_1,hcz12_2,hcz12_3⟩:=Um BK263.out;obtain ⟨hfz12_0,hfz12_1,hfz12_2,hfz12_3⟩:=Un BK263.out)|((with_reducible refine Xj (f:=17) rfl ?_);refine Yu (some 17) rfl rfl Tryd.func17 (by kernel_rfl) rfl #[.agg #[.int .i64 ((Xb l0 x11_1).f0),.int .i64 ((Xb l0 x11_1).f1),.int .i64 ((Xb l0 x11_1).f2),.int .i64 ((Xb l0 x11_1).f3)]] rfl ga_ ?_;(with_reducible refine (Yt.calls k1 ((Xb l0 x11_1).f0) ((Xb l0 x11_1).f1) ((Xb l0 x11_1).f2) ((Xb l0 x11_1).f3) t264 _ A8.out (Go.Proofs.YtdkcjecllbdljaaDoor.Shelf2.Tab.below HT.out (bl_ HB))).mono ?_);rintro e w13 ⟨rfl,hb⟩;refine ⟨_,rfl,?_⟩;have n0_:=Xa.mk (Ym (g:=gb263) (o:=.cells #[.int .i64 ((Xb l0 x11_1).f0),.int .i64 ((Xb l0 x11_1).f1),.int .i64 ((Xb l0 x11_1).f2),.int .i64 ((Xb l0 x11_1).f3)] 36 (0,0)) (by (with_reducible repeat (first|refine Xo ?_ _|refine Xx ?_|refine Xn ?_ _));refine Yl (cs:=#[.int .i64 ((Xb l0 x11_1).f0),.int .i64 ((Xb l0 x11_1).f1),.int .i64 ((Xb l0 x11_1).f2),.int .i64 0]) ?_ 3 _ rfl;(with_reducible repeat (first|refine Xo ?_ _|refine Xx ?_|refine Xn ?_ _));refine Yl (cs:=#[.int .i64 ((Xb l0 x11_1).f0),.int .i64 ((Xb l0 x11_1).f1),.int .i64 0,.int .i64 0]) ?_ 2 _ rfl;(with_reducible repeat (first|refine Xo ?_ _|refine Xx ?_|refine Xn ?_ _));refine Yl (cs:=#[.int .i64 ((Xb l0 x11_1).f0),.int .i64 0,.int .i64 0,.int .i64 0]) ?_ 1 _ rfl;(with_reducible repeat (first|refine Xo ?_ _|refine Xx ?_|refine Xn ?_ _));refine Yl (cs:=#[.int .i64 0,.int .i64 0,.int .i64 0,.int .i64 0]) ?_ 0 _ rfl;(with_reducible repeat (first|refine Xo ?_ _|refine Xx ?_|refine Xn ?_ _));exact BK263.out) hb);have n1_:=Xa.mk (Xc (bl_ HB) hb);clear BK263;clear HB;have BK263:=n0_;have HB:=n1_;clear n0_ n1_;(try clear hb);(try clear hb2);(try clear hk);(try clear hi)))
         go_roundg k1
         case measure=>have:=HK1.out;omega
         case rel=>exact ⟨(x3_1 ++ (t264 ++ (⟨#[10]⟩:ByteArray))),(wrap64 (x11_1+1)),(by first|rfl|(simp;done)|(simp [*];done)),(by first|rfl|(simp;done)|(simp [*];done)),H',⟨by have:=HK1.out;omega⟩,⟨bl_ HB⟩⟩
        ·rw [if_neg c10] at H;exact absurd H (by simp)
       ·rw [if_neg c9] at H;exact absurd H (by simp)
      ·rw [if_neg c7] at H;exact absurd H (by simp)
     ·rw [if_neg c6] at H;exact absurd H (by simp)
    ·rw [if_neg c5] at H;have c5b0:decide (x11_1<(l0.length:Int))=false:=decide_eq_false c5;clear c5;obtain rfl:=Option.some.inj H;go_wp2
     go_ret
     exact ⟨rf_,bl_ HB⟩
 ·replace c3:=Bool.eq_false_iff.mpr c3;subst c3
  have H1:(some (⟨#[]⟩:ByteArray))=some r:=by rw [if_neg (show ¬ (false=true) by decide)] at H;exact H
  clear H;have H:=H1;clear H1;obtain rfl:=Option.some.inj H
  go_enter Tryd.func8,Tryd.ntmps8
  go_wp2_with (first|((with_reducible refine Xj (f:=16) rfl ?_);refine Yu (some 7) rfl rfl Tryd.func16 (by kernel_rfl) rfl #[.slice A0 l0.length c0] rfl ga_ ?_;(with_reducible refine (Za.calls k _ _ l0 false _ ?side1 ?side2 A2.out).mono ?_);(case side1=>repeat (first|exact HR0.out|(with_reducible refine Kd.Yc ?_ _)|(with_reducible refine Kd.Yd ?_ _)|(with_reducible refine Kd.Yo ?_)));(case side2=>exact HC0.out);rintro e w14 ⟨rfl,hb⟩;refine ⟨_,rfl,?_⟩;have n0_:=Xa.mk (Xc (bl_ HB) hb);clear HB;have HB:=n0_;clear n0_;(try clear hb);(try clear hb2);(try clear hk);(try clear hi)))
  go_ret
  exact ⟨rf_,bl_ HB⟩
end Go.Proofs.YtdkcjecllbdljaaDoor.GCode
