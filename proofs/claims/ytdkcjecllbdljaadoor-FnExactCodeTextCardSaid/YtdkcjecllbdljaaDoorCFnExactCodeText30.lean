import Derived.Test.YtdkcjecllbdljaaDoorCFnExactCodeText22
import Derived.Test.YtdkcjecllbdljaaDoorCFnExactCodeText28
import Derived.Test.YtdkcjecllbdljaaDoorCFnExactCodeText29
namespace Go.Proofs.YtdkcjecllbdljaaDoor.GCode
open Go.RowKit Go.Proofs.YtdkcjecllbdljaaDoorW.PrintWords Go.Proofs.YtdkcjecllbdljaaDoorW.PrintLast Go.Proofs.YtdkcjecllbdljaaDoorW.PrintMore
attribute [local go_sem] max2_int min2_int max_two min_two Zb Zc max_four min_four
set_option linter.unusedVariables false
set_option linter.unusedSimpArgs false
mutual
def Xn.l0:Nat→List (S36)→ByteArray→Int→Option (ByteArray)
 |0,_,_,_=>none
 |k+1,x0,x3,x4=>if x4<(x0.length:Int) then (if 0≤x4 then ((spec_l4Word.f ((Xb x0 x4).f0)).bind fun bt198=>((Yh.f k ((Xb x0 x4).f0) ((Xb x0 x4).f1) ((Xb x0 x4).f2) ((Xb x0 x4).f3)).bind fun t201=>(Xn.l1 k x0 x3 x4 bt198.1 t201 0))) else (none)) else (some x3)
def Xn.l1:Nat→List (S36)→ByteArray→Int→ByteArray→List Int→Int→Option (ByteArray)
 |0,_,_,_,_,_,_=>none
 |k+1,x0,x3,x4,x5,x7,x8=>if x8<(x7.length:Int) then (if x5.size+1≤9223372036854775807 then (if 0≤x8 then ((Yg.f k (rd x7 x8)).bind fun t205=>(if (x5 ++ (⟨#[32]⟩:ByteArray)).size+t205.size≤9223372036854775807 then (Xn.l1 k x0 x3 x4 ((x5 ++ (⟨#[32]⟩:ByteArray)) ++ t205) x7 (wrap64 (x8+1))) else (none))) else (none)) else (none)) else (if x3.size+x5.size≤9223372036854775807 then (if (x3 ++ x5).size+1≤9223372036854775807 then (Xn.l0 k x0 ((x3 ++ x5) ++ (⟨#[10]⟩:ByteArray)) (wrap64 (x4+1))) else (none)) else (none))
end
def Xn.f (k:Nat) (l0:List (S36)):Option (ByteArray):=(Xt.f k l0).bind fun t196=>(if t196=true then (Xn.l0 k l0 (⟨#[]⟩:ByteArray) 0) else (some (⟨#[]⟩:ByteArray)))
set_option maxHeartbeats 8000000 in
set_option maxRecDepth 100000 in
theorem Xn.calls (k:Nat) (A0:Option Addr) (c0:Nat) (l0:List (S36)) (r:ByteArray) (w:World) (hr0:Kd.C k36 w A0 l0.length l0) (hc0:l0.length≤c0) (h:Xn.f k l0=some r) :
  Calls Tryd.prog 6 #[.slice A0 l0.length c0] w fun e w'=>e=.returned (.string r)∧Below w.heap.size w w':=by
 have hu36:=Tryd.underlying36;have HR0:=Xa.mk hr0;have HC0:=Xa.mk hc0;clear hr0 hc0;have HB:=Xa.mk (Below.refl w.heap.size w);have H:((Xt.f k l0).bind fun t196=>(if t196=true then (Xn.l0 k l0 (⟨#[]⟩:ByteArray) 0) else (some (⟨#[]⟩:ByteArray))))=some r:=h;clear h;replace H:=Option.bind_eq_some_iff.mp H;obtain ⟨t196,A20,H⟩:=H;replace H:(if t196=true then (Xn.l0 k l0 (⟨#[]⟩:ByteArray) 0) else (some (⟨#[]⟩:ByteArray)))=some r:=H;have A2:=Xa.mk A20;clear A20;by_cases c3:t196=true
 ·subst c3
  have H1:(Xn.l0 k l0 (⟨#[]⟩:ByteArray) 0)=some r:=by rw [if_pos rfl] at H;exact H
  clear H;have H:=H1;clear H1;have H':=Xa.mk H;clear H
  go_enter Tryd.func6,Tryd.ntmps6
  go_wp2_with (first|((with_reducible refine Xl (f:=11) rfl ?_);refine Ym (some 10) rfl rfl Tryd.func11 (by kernel_rfl) rfl #[.slice A0 l0.length c0] rfl ga_ ?_;(with_reducible refine (Xt.calls k _ _ l0 true _ ?side1 ?side2 A2.out).mono ?_);(case side1=>repeat (first|exact HR0.out|(with_reducible refine Kd.Yt ?_ _)|(with_reducible refine Kd.Yu ?_ _)|(with_reducible refine Kd.Zd ?_)));(case side2=>exact HC0.out);rintro e w4 ⟨rfl,hb⟩;refine ⟨_,rfl,?_⟩;have n0_:=Xa.mk (Xd (bl_ HB) hb);clear HB;have HB:=n0_;clear n0_;(try clear hb);(try clear hb2);(try clear hk);(try clear hi)))
  go_loopg [3,4] k (fun kq v3 v4 w'=>∃ (x3_1:ByteArray) (x4_1:Int),v3=.string x3_1∧v4=.int .i64 x4_1∧Xa (Xn.l0 kq l0 x3_1 x4_1=some r)∧Xa (kq≤k)∧Xa (Below w.heap.size w w'))
  case atStart=>exact ⟨((⟨#[]⟩:ByteArray)),(0),(by first|rfl|(simp;done)|(simp [*];done)),(by first|rfl|(simp;done)|(simp [*];done)),H',⟨Nat.le_refl _⟩,⟨bl_ HB⟩⟩
  case round=>
   clear H'
   try clear c1
   try clear p2
   try clear c3
   obtain ⟨x3_1,x4_1,rfl,rfl,HA,HK1,HB⟩:=hrel
   cases gk with
   |zero=>exact absurd HA.out (by simp [Xn.l0])
   |succ k1=>
    have H:=HA.out;clear HA;simp only [Xn.l0] at H;by_cases c5:x4_1<(l0.length:Int)
    ·rw [if_pos c5] at H;have c5b0:decide (x4_1<(l0.length:Int))=true:=decide_eq_true c5;clear c5;by_cases c6:0≤x4_1
     ·rw [if_pos c6] at H;have c6b0:decide (0≤x4_1)=true:=decide_eq_true c6;clear c6;replace H:=Option.bind_eq_some_iff.mp H;obtain ⟨⟨t198,t199⟩,A70,H⟩:=H;replace H:((Yh.f k1 ((Xb l0 x4_1).f0) ((Xb l0 x4_1).f1) ((Xb l0 x4_1).f2) ((Xb l0 x4_1).f3)).bind fun t201=>(Xn.l1 k1 l0 x3_1 x4_1 t198 t201 0))=some r:=H;have A7:=Xa.mk A70;clear A70;replace H:=Option.bind_eq_some_iff.mp H;obtain ⟨t201,A80,H⟩:=H;replace H:(Xn.l1 k1 l0 x3_1 x4_1 t198 t201 0)=some r:=H;have A8:=Xa.mk A80;clear A80;have H':=Xa.mk H;clear H;have p197:0≤(x4_1:Int):=of_decide_eq_true (by first|(with_reducible assumption)|assumption);have q197:x4_1<(l0.length:Int):=of_decide_eq_true (by first|(with_reducible assumption)|assumption);obtain ⟨ad197,e197,hx197_0,hx197_1,hx197_2,hx197_3⟩:=at_T36 HR0.out x4_1 p197 q197;cases e197
      replace hx197_0:=(HB.out.cell (World.block_lt_of_cell? w _ hx197_0)).trans hx197_0;replace hx197_1:=(HB.out.cell (World.block_lt_of_cell? w _ hx197_1)).trans hx197_1;replace hx197_2:=(HB.out.cell (World.block_lt_of_cell? w _ hx197_2)).trans hx197_2;replace hx197_3:=(HB.out.cell (World.block_lt_of_cell? w _ hx197_3)).trans hx197_3;replace p197:=eq_true p197;replace q197:=eq_true q197;go_wp2_with (first|((with_reducible refine Xl (f:=12) rfl ?_);refine Ym (some 25) rfl rfl Tryd.func12 (by kernel_rfl) rfl #[.int .i64 ((Xb l0 x4_1).f0)] rfl ga_ ?_;(with_reducible refine (spec_l4Word.calls ((Xb l0 x4_1).f0) t198 t199 _ A7.out).mono ?_);rintro e w9 ⟨rfl,hb⟩;refine ⟨_,rfl,?_⟩;have n0_:=Xa.mk (Xd (bl_ HB) hb);clear HB;have HB:=n0_;clear n0_;(try clear hb);(try clear hb2);(try clear hk);(try clear hi);have p200:0≤(x4_1:Int):=of_decide_eq_true (by first|(with_reducible assumption)|assumption);have q200:x4_1<(l0.length:Int):=of_decide_eq_true (by first|(with_reducible assumption)|assumption);obtain ⟨ad200,e200,hx200_0,hx200_1,hx200_2,hx200_3⟩:=at_T36 HR0.out x4_1 p200 q200;obtain rfl:ad197=ad200:=(by injection e200);replace hx200_0:=(HB.out.cell (World.block_lt_of_cell? w _ hx200_0)).trans hx200_0;replace hx200_1:=(HB.out.cell (World.block_lt_of_cell? w _ hx200_1)).trans hx200_1;replace hx200_2:=(HB.out.cell (World.block_lt_of_cell? w _ hx200_2)).trans hx200_2;replace hx200_3:=(HB.out.cell (World.block_lt_of_cell? w _ hx200_3)).trans hx200_3;replace p200:=eq_true p200;replace q200:=eq_true q200)|((with_reducible refine Xl (f:=13) rfl ?_);refine Ym (some 32) rfl rfl Tryd.func13 (by kernel_rfl) rfl #[.agg #[.int .i64 ((Xb l0 x4_1).f0),.int .i64 ((Xb l0 x4_1).f1),.int .i64 ((Xb l0 x4_1).f2),.int .i64 ((Xb l0 x4_1).f3)]] rfl ga_ ?_;(with_reducible refine (Yh.calls k1 ((Xb l0 x4_1).f0) ((Xb l0 x4_1).f1) ((Xb l0 x4_1).f2) ((Xb l0 x4_1).f3) t201 _ A8.out).mono ?_);rintro e w10 ⟨v202,rfl,ho0,hb⟩;refine ⟨_,rfl,?_⟩;have n0_:=Xa.mk (Kd.Yb ho0 (Xc (bl_ HB)));have n1_:=Xa.mk (Xd (bl_ HB) hb);clear HB;have HO203:=n0_;have HB:=n1_;clear n0_ n1_;(try clear hb);(try clear hb2);(try clear hk);(try clear hi);(try clear ho0)))
      go_loopg [5,8] k1 (fun kq v5 v8 w'=>∃ (x5_2:ByteArray) (x8_2:Int),v5=.string x5_2∧v8=.int .i64 x8_2∧Xa (Xn.l1 kq l0 x3_1 x4_1 x5_2 t201 x8_2=some r)∧Xa (kq≤k1)∧Xa (Kd.R (Kd.int .i64) 3 w' w.heap.size (fun _=>True) v202 t201)∧Xa (Below w.heap.size w w'))
      case atStart=>exact ⟨(t198),(0),(by first|rfl|(simp;done)|(simp [*];done)),(by first|rfl|(simp;done)|(simp [*];done)),H',⟨Nat.le_refl _⟩,⟨Kd.ra_ (HO203.out)⟩,⟨bl_ HB⟩⟩
      case round=>
       clear H'
       try clear c1
       try clear p1
       try clear q1
       try clear hx1
       try clear p2
       try clear q2
       try clear hx2
       try clear c3
       try clear c5
       try clear c5b0
       try clear c6
       try clear c6b0
       try clear hx197_0
       try clear hx197_1
       try clear hx197_2
       try clear hx197_3
       try clear hx200_0
       try clear hx200_1
       try clear hx200_2
       try clear hx200_3
       try clear p197
       try clear p2
       try clear p200
       try clear q197
       try clear q200
       obtain ⟨x5_2,x8_2,rfl,rfl,HA,HK2,HO_7,HB⟩:=hrel
       cases gk with
       |zero=>exact absurd HA.out (by simp [Xn.l1])
       |succ k2=>
        have H:=HA.out;clear HA;simp only [Xn.l1] at H;by_cases c11:x8_2<(t201.length:Int)
        ·rw [if_pos c11] at H;have c11b0:decide (x8_2<(t201.length:Int))=true:=decide_eq_true c11;clear c11;by_cases c12:x5_2.size+1≤9223372036854775807
         ·rw [if_pos c12] at H;have c12b0:=eq_true c12;have c12b1:decide (x5_2.size+1≤9223372036854775807)=true:=decide_eq_true c12
          try have c12b2:(9223372036854775807<x5_2.size+1)=False:=eq_false (Nat.not_lt.2 c12)
          by_cases c13:0≤x8_2
          ·rw [if_pos c13] at H;have c13b0:decide (0≤x8_2)=true:=decide_eq_true c13;clear c13;replace H:=Option.bind_eq_some_iff.mp H;obtain ⟨t205,A140,H⟩:=H;replace H:(if (x5_2 ++ (⟨#[32]⟩:ByteArray)).size+t205.size≤9223372036854775807 then (Xn.l1 k2 l0 x3_1 x4_1 ((x5_2 ++ (⟨#[32]⟩:ByteArray)) ++ t205) t201 (wrap64 (x8_2+1))) else (none))=some r:=H;have A14:=Xa.mk A140;clear A140;by_cases c15:(x5_2 ++ (⟨#[32]⟩:ByteArray)).size+t205.size≤9223372036854775807
           ·rw [if_pos c15] at H;have c15b0:=eq_true c15;have c15b1:decide ((x5_2 ++ (⟨#[32]⟩:ByteArray)).size+t205.size≤9223372036854775807)=true:=decide_eq_true c15
            have c15s:(x5_2.size+1)+t205.size≤9223372036854775807:=by have h_:=c15;simp only [ByteArray.size_append] at h_;exact h_
            have c15s0:=eq_true c15s;have c15s1:decide ((x5_2.size+1)+t205.size≤9223372036854775807)=true:=decide_eq_true c15s
            try have c15s2:(9223372036854775807<(x5_2.size+1)+t205.size)=False:=eq_false (Nat.not_lt.2 c15s)
            try have c15b2:(9223372036854775807<(x5_2 ++ (⟨#[32]⟩:ByteArray)).size+t205.size)=False:=eq_false (Nat.not_lt.2 c15)
            have H':=Xa.mk H;clear H;obtain ⟨Ao16,co16,eo16⟩:=Kd.Yy HO_7.out;subst eo16;have p204:0≤(x8_2:Int):=of_decide_eq_true (by first|(with_reducible assumption)|assumption);have q204:x8_2<(t201.length:Int):=of_decide_eq_true (by first|(with_reducible assumption)|assumption);obtain ⟨ad204,e204,hx204_0⟩:=Kd.Yv (Kd.R_reads' HO_7.out).2.2 x8_2 p204 q204;cases e204
            replace p204:=eq_true p204;replace q204:=eq_true q204;go_wp2_with (first|((with_reducible refine Xl (f:=14) rfl ?_);refine Ym (some 45) rfl rfl Tryd.func14 (by kernel_rfl) rfl #[.int .i64 (rd t201 x8_2)] rfl ga_ ?_;(with_reducible refine (Yg.calls k2 (rd t201 x8_2) t205 _ A14.out).mono ?_);rintro e w17 ⟨rfl,hb⟩;refine ⟨_,rfl,?_⟩;have n0_:=Xa.mk (Kd.Yj (Kd.ra_ (HO_7.out)) hb);have n1_:=Xa.mk (Xd (bl_ HB) hb);clear HO_7;clear HB;have HO_7:=n0_;have HB:=n1_;clear n0_ n1_;(try clear hb);(try clear hb2);(try clear hk);(try clear hi)))
            go_roundg k2
            case measure=>have:=HK1.out;have:=HK2.out;omega
            case rel=>exact ⟨((x5_2 ++ (⟨#[32]⟩:ByteArray)) ++ t205),(wrap64 (x8_2+1)),(by first|rfl|(simp;done)|(simp [*];done)),(by first|rfl|(simp;done)|(simp [*];done)),H',⟨by have:=HK1.out;have:=HK2.out;omega⟩,⟨Kd.ra_ (HO_7.out)⟩,⟨bl_ HB⟩⟩
           ·rw [if_neg c15] at H;exact absurd H (by simp)
          ·rw [if_neg c13] at H;exact absurd H (by simp)
         ·rw [if_neg c12] at H;exact absurd H (by simp)
        ·rw [if_neg c11] at H;have c11b0:decide (x8_2<(t201.length:Int))=false:=decide_eq_false c11;clear c11;by_cases c18:x3_1.size+x5_2.size≤9223372036854775807
         ·rw [if_pos c18] at H;have c18b0:=eq_true c18;have c18b1:decide (x3_1.size+x5_2.size≤9223372036854775807)=true:=decide_eq_true c18
          try have c18b2:(9223372036854775807<x3_1.size+x5_2.size)=False:=eq_false (Nat.not_lt.2 c18)
          by_cases c19:(x3_1 ++ x5_2).size+1≤9223372036854775807
          ·rw [if_pos c19] at H;have c19b0:=eq_true c19;have c19b1:decide ((x3_1 ++ x5_2).size+1≤9223372036854775807)=true:=decide_eq_true c19
           have c19s:(x3_1.size+x5_2.size)+1≤9223372036854775807:=by have h_:=c19;simp only [ByteArray.size_append] at h_;exact h_
           have c19s0:=eq_true c19s;have c19s1:decide ((x3_1.size+x5_2.size)+1≤9223372036854775807)=true:=decide_eq_true c19s
           try have c19s2:(9223372036854775807<(x3_1.size+x5_2.size)+1)=False:=eq_false (Nat.not_lt.2 c19s)
           try have c19b2:(9223372036854775807<(x3_1 ++ x5_2).size+1)=False:=eq_false (Nat.not_lt.2 c19)
           have H':=Xa.mk H;clear H;obtain ⟨Ao20,co20,eo20⟩:=Kd.Yy HO_7.out;subst eo20;go_wp2
           go_roundg k2
           case measure=>have:=HK1.out;have:=HK2.out;omega
           case rel=>exact ⟨((x3_1 ++ x5_2) ++ (⟨#[10]⟩:ByteArray)),(wrap64 (x4_1+1)),(by first|rfl|(simp;done)|(simp [*];done)),(by first|rfl|(simp;done)|(simp [*];done)),H',⟨by have:=HK1.out;have:=HK2.out;omega⟩,⟨bl_ HB⟩⟩
          ·rw [if_neg c19] at H;exact absurd H (by simp)
         ·rw [if_neg c18] at H;exact absurd H (by simp)
     ·rw [if_neg c6] at H;exact absurd H (by simp)
    ·rw [if_neg c5] at H;have c5b0:decide (x4_1<(l0.length:Int))=false:=decide_eq_false c5;clear c5;obtain rfl:=Option.some.inj H;go_wp2
     go_ret
     exact ⟨rf_,bl_ HB⟩
 ·replace c3:=Bool.eq_false_iff.mpr c3;subst c3
  have H1:(some (⟨#[]⟩:ByteArray))=some r:=by rw [if_neg (show ¬ (false=true) by decide)] at H;exact H
  clear H;have H:=H1;clear H1;obtain rfl:=Option.some.inj H
  go_enter Tryd.func6,Tryd.ntmps6
  go_wp2_with (first|((with_reducible refine Xl (f:=11) rfl ?_);refine Ym (some 10) rfl rfl Tryd.func11 (by kernel_rfl) rfl #[.slice A0 l0.length c0] rfl ga_ ?_;(with_reducible refine (Xt.calls k _ _ l0 false _ ?side1 ?side2 A2.out).mono ?_);(case side1=>repeat (first|exact HR0.out|(with_reducible refine Kd.Yt ?_ _)|(with_reducible refine Kd.Yu ?_ _)|(with_reducible refine Kd.Zd ?_)));(case side2=>exact HC0.out);rintro e w21 ⟨rfl,hb⟩;refine ⟨_,rfl,?_⟩;have n0_:=Xa.mk (Xd (bl_ HB) hb);clear HB;have HB:=n0_;clear n0_;(try clear hb);(try clear hb2);(try clear hk);(try clear hi)))
  go_ret
  exact ⟨rf_,bl_ HB⟩
def laws_toIns.f (a0_0:Int) (a0_1:Int) (a0_2:Int) (a0_3:Int):Option (Int × Int × Int × Int):=some (a0_0,a0_1,a0_2,a0_3)
set_option maxHeartbeats 8000000 in
set_option maxRecDepth 100000 in
theorem laws_toIns.calls (a0_0:Int) (a0_1:Int) (a0_2:Int) (a0_3:Int) (r1:Int) (r2:Int) (r3:Int) (r4:Int) (w:World) (h:laws_toIns.f a0_0 a0_1 a0_2 a0_3=some (r1,r2,r3,r4)) :
  Calls Tryd.prog 15 #[.agg #[.int .i64 a0_0,.int .i64 a0_1,.int .i64 a0_2,.int .i64 a0_3]] w fun e w'=>e=.returned (.agg #[.int .i64 r1,.int .i64 r2,.int .i64 r3,.int .i64 r4])∧Below w.heap.size w w':=by
 have hu41:=Tryd.underlying41;have hu36:=Tryd.underlying36;have HB:=Xa.mk (Below.refl w.heap.size w);have H:(some (a0_0,a0_1,a0_2,a0_3))=some (r1,r2,r3,r4):=h;clear h;simp only [Option.some.injEq,Prod.mk.injEq] at H;obtain ⟨rfl,rfl,rfl,rfl⟩:=H
 go_enter Tryd.func15,Tryd.ntmps15
 go_wp2_with (first|((with_reducible refine Xj (N:=1) rfl ?_);refine Xq ?hg (N:=1) ?hd (cs:=#[.int .i64 a0_0,.int .i64 a0_1,.int .i64 a0_2,.int .i64 a0_3]) (t:=41) ?hr ?_;(case hd=>rfl);(case hg=>rfl);(case hr=>first|(go_simp;done)|(go_simp;rfl));intro gb206 hg w2 hbox hb;have n0_:=Xa.mk (Xd (bl_ HB) hb);have n1_:=Xa.mk (hbox);have n2_:=Xa.mk ((by rw [hg];exact (Xc (bl_ HB)):w.heap.size≤gb206));have n3_:=Xa.mk ((by rw [hg];exact (Xc (bl_ HB)):w.heap.size≤gb206));clear HB;have HB:=n0_;have BK206:=n1_;have GW206:=n2_;have GE206:=n3_;clear n0_ n1_ n2_ n3_;clear hb hbox hg)|((with_reducible refine Xj (N:=2) rfl ?_);refine Xq ?hg (N:=2) ?hd (cs:=#[.int .i64 0,.int .i64 0,.int .i64 0,.int .i64 0]) (t:=36) ?hr ?_;(case hd=>rfl);(case hg=>rfl);(case hr=>first|(go_simp;done)|(go_simp;rfl));intro gb207 hg w3 hbox hb;have n0_:=Xa.mk (Xz (g:=gb206) (o:=.cells #[.int .i64 a0_0,.int .i64 a0_1,.int .i64 a0_2,.int .i64 a0_3] 41 (0,0)) (ba_ BK206) hb);have n1_:=Xa.mk (Xd (bl_ HB) hb);have n2_:=Xa.mk (hbox);have n3_:=Xa.mk ((by rw [hg];exact (Xc (bl_ HB)):w.heap.size≤gb207));have n4_:=Xa.mk ((by rw [hg];exact (Xc (bl_ HB)):w.heap.size≤gb207));have n5_:=Xa.mk ((by rw [hg];exact Nat.ne_of_lt (blk_lt (g:=gb206) (o:=.cells #[.int .i64 a0_0,.int .i64 a0_1,.int .i64 a0_2,.int .i64 a0_3] 41 (0,0)) (ba_ BK206)):gb206≠gb207));have n6_:=Xa.mk ((by rw [hg];exact Nat.ne_of_gt (blk_lt (g:=gb206) (o:=.cells #[.int .i64 a0_0,.int .i64 a0_1,.int .i64 a0_2,.int .i64 a0_3] 41 (0,0)) (ba_ BK206)):gb207≠gb206));clear BK206;clear HB;have BK206:=n0_;have HB:=n1_;have BK207:=n2_;have GW207:=n3_;have GE207:=n4_;have NB206_207:=n5_;have NB207_206:=n6_;clear n0_ n1_ n2_ n3_ n4_ n5_ n6_;clear hb hbox hg)|((with_reducible refine Xj (N:=3) rfl ?_);refine Xq ?hg (N:=3) ?hd (cs:=#[.int .i64 0,.int .i64 0,.int .i64 0,.int .i64 0]) (t:=36) ?hr ?_;(case hd=>rfl);(case hg=>rfl);(case hr=>first|(go_simp;done)|(go_simp;rfl));intro gb208 hg w4 hbox hb;have n0_:=Xa.mk (Xz (g:=gb206) (o:=.cells #[.int .i64 a0_0,.int .i64 a0_1,.int .i64 a0_2,.int .i64 a0_3] 41 (0,0)) (ba_ BK206) hb);have n1_:=Xa.mk (Xz (g:=gb207) (o:=.cells #[.int .i64 0,.int .i64 0,.int .i64 0,.int .i64 0] 36 (0,0)) (ba_ BK207) hb);have n2_:=Xa.mk (Xd (bl_ HB) hb);have n3_:=Xa.mk (hbox);have n4_:=Xa.mk ((by rw [hg];exact (Xc (bl_ HB)):w.heap.size≤gb208));have n5_:=Xa.mk ((by rw [hg];exact (Xc (bl_ HB)):w.heap.size≤gb208));have n6_:=Xa.mk ((by rw [hg];exact Nat.ne_of_lt (blk_lt (g:=gb206) (o:=.cells #[.int .i64 a0_0,.int .i64 a0_1,.int .i64 a0_2,.int .i64 a0_3] 41 (0,0)) (ba_ BK206)):gb206≠gb208));have n7_:=Xa.mk ((by rw [hg];exact Nat.ne_of_gt (blk_lt (g:=gb206) (o:=.cells #[.int .i64 a0_0,.int .i64 a0_1,.int .i64 a0_2,.int .i64 a0_3] 41 (0,0)) (ba_ BK206)):gb208≠gb206));have n8_:=Xa.mk ((by rw [hg];exact Nat.ne_of_lt (blk_lt (g:=gb207) (o:=.cells #[.int .i64 0,.int .i64 0,.int .i64 0,.int .i64 0] 36 (0,0)) (ba_ BK207)):gb207≠gb208));have n9_:=Xa.mk ((by rw [hg];exact Nat.ne_of_gt (blk_lt (g:=gb207) (o:=.cells #[.int .i64 0,.int .i64 0,.int .i64 0,.int .i64 0] 36 (0,0)) (ba_ BK207)):gb208≠gb207));clear BK206;clear BK207;clear HB;have BK206:=n0_;have BK207:=n1_;have HB:=n2_;have BK208:=n3_;have GW208:=n4_;have GE208:=n5_;have NB206_208:=n6_;have NB208_206:=n7_;have NB207_208:=n8_;have NB208_207:=n9_;clear n0_ n1_ n2_ n3_ n4_ n5_ n6_ n7_ n8_ n9_;clear hb hbox hg;have hnb5:=NB206_207.out;have hnc5:=NB207_206.out;have hnb6:=NB206_208.out;have hnc6:=NB208_206.out;obtain ⟨hcz7_0,hcz7_1,hcz7_2,hcz7_3⟩:=Yn BK206.out;obtain ⟨hfz7_0,hfz7_1,hfz7_2,hfz7_3⟩:=Yo BK206.out;have hnb8:=NB208_207.out;have hnc8:=NB207_208.out;obtain ⟨hcz9_0,hcz9_1,hcz9_2,hcz9_3⟩:=Yn BK208.out;obtain ⟨hfz9_0,hfz9_1,hfz9_2,hfz9_3⟩:=Yo BK208.out;obtain ⟨hcz10_0,hcz10_1,hcz10_2,hcz10_3⟩:=Yn BK207.out;obtain ⟨hfz10_0,hfz10_1,hfz10_2,hfz10_3⟩:=Yo BK207.out))
 refine bodyPost_ret (results_cell_row rfl _ _ gb207 36 #[.int .i64 a0_0,.int .i64 a0_1,.int .i64 a0_2,.int .i64 a0_3] (0,0) _ rfl (by (with_reducible repeat (first|refine Ye ?_ _|refine Yk ?_|refine Yd ?_ _));refine blk_put (cs:=#[.int .i64 a0_0,.int .i64 a0_1,.int .i64 a0_2,.int .i64 0]) ?_ 3 _ rfl;(with_reducible repeat (first|refine Ye ?_ _|refine Yk ?_|refine Yd ?_ _));refine blk_put (cs:=#[.int .i64 a0_0,.int .i64 a0_1,.int .i64 0,.int .i64 0]) ?_ 2 _ rfl;(with_reducible repeat (first|refine Ye ?_ _|refine Yk ?_|refine Yd ?_ _));refine blk_put (cs:=#[.int .i64 a0_0,.int .i64 0,.int .i64 0,.int .i64 0]) ?_ 1 _ rfl;(with_reducible repeat (first|refine Ye ?_ _|refine Yk ?_|refine Yd ?_ _));refine blk_put (cs:=#[.int .i64 0,.int .i64 0,.int .i64 0,.int .i64 0]) ?_ 0 _ rfl;(with_reducible repeat (first|refine Ye ?_ _|refine Yk ?_|refine Yd ?_ _));refine blk_far ?_ NB207_208.out _;(with_reducible repeat (first|refine Ye ?_ _|refine Yk ?_|refine Yd ?_ _));refine blk_far ?_ NB207_208.out _;(with_reducible repeat (first|refine Ye ?_ _|refine Yk ?_|refine Yd ?_ _));refine blk_far ?_ NB207_208.out _;(with_reducible repeat (first|refine Ye ?_ _|refine Yk ?_|refine Yd ?_ _));refine blk_far ?_ NB207_208.out _;(with_reducible repeat (first|refine Ye ?_ _|refine Yk ?_|refine Yd ?_ _));exact BK207.out) Tryd.underlying36 rfl (by kernel_rfl)) rfl ?_
 exact ⟨rf_,bl_ HB⟩
def Xr.l0:Nat→List (S41)→List (S36)→Int→Option ((List (S36)))
 |0,_,_,_=>none
 |k+1,x0,x3,x4=>if x4<(x0.length:Int) then (if 0≤x4 then ((laws_toIns.f ((rd_T41 x0 x4).f0) ((rd_T41 x0 x4).f1) ((rd_T41 x0 x4).f2) ((rd_T41 x0 x4).f3)).bind fun bt213=>(if x4<(x3.length:Int) then (Xr.l0 k x0 (x3.set (x4:Int).toNat (⟨bt213.1,bt213.2.1,bt213.2.2.1,bt213.2.2.2⟩:S36)) (wrap64 (x4+1))) else (none))) else (none)) else (some x3)
def Xr.f (k:Nat) (l0:List (S41)):Option ((List (S36))):=if 0≤(l0.length:Int) then (if ((l0.length:Int):Int).toNat≤8796093022208 then (Xr.l0 k l0 (List.replicate ((l0.length:Int):Int).toNat z36) 0) else (none)) else (none)
set_option maxHeartbeats 8000000 in
set_option maxRecDepth 100000 in
theorem Xr.calls (k:Nat) (A0:Option Addr) (c0:Nat) (l0:List (S41)) (r:List (S36)) (w:World) (hr0:Kd.C k41 w A0 l0.length l0) (hc0:l0.length≤c0) (h:Xr.f k l0=some r) :
  Calls Tryd.prog 7 #[.slice A0 l0.length c0] w fun e w'=>∃ v0_:Value,e=.returned (v0_)∧Kd.R k36 36 w' w.heap.size (fun _=>True) v0_ r∧Below w.heap.size w w':=by
 have hu41:=Tryd.underlying41;have hu36:=Tryd.underlying36;have HR0:=Xa.mk hr0;have HC0:=Xa.mk hc0;clear hr0 hc0;have HB:=Xa.mk (Below.refl w.heap.size w);have H:(if 0≤(l0.length:Int) then (if ((l0.length:Int):Int).toNat≤8796093022208 then (Xr.l0 k l0 (List.replicate ((l0.length:Int):Int).toNat z36) 0) else (none)) else (none))=some r:=h;clear h;by_cases c2:0≤(l0.length:Int)
 ·rw [if_pos c2] at H;have c2b0:=eq_true c2;have c2b1:decide (0≤(l0.length:Int))=true:=decide_eq_true c2;clear c2;by_cases c3:((l0.length:Int):Int).toNat≤8796093022208
  ·rw [if_pos c3] at H;have c3b0:=eq_true c3;have c3b1:decide (((l0.length:Int):Int).toNat≤8796093022208)=true:=decide_eq_true c3;clear c3;obtain ⟨y209,hy209⟩:∃ y_:List (S36),y_=(List.replicate ((l0.length:Int):Int).toNat z36):=⟨_,rfl⟩
   replace H:(Xr.l0 k l0 y209 0)=some r:=by subst hy209;first|with_reducible exact H|(have z:=(Option.bind_some _ _).symm.trans H;with_reducible exact z)|exact H
   have Ny209:=Xa.mk hy209;clear hy209;have H':=Xa.mk H;clear H
   go_enter Tryd.func7,Tryd.ntmps7
   go_wp2_with (first|((with_reducible refine Xj (N:=7) rfl ?_);refine Kd.R_make k36 _ 36 rfl (N:=7) rfl 25 _ _ rfl (l0.length:Int) rfl rfl Tryd.underlying25 (.agg #[(.int .i64 0),(.int .i64 0),(.int .i64 0),(.int .i64 0)]) 32 info36 rfl (by decide) (by omega) z36 (ok:=fun _=>True) (okp:=fun _=>True) (k36_mkM _ _ _ z36 ) (fun _ hk=>hk) trivial (of_decide_eq_true (by first|(with_reducible assumption)|assumption)) (Nat.le_trans (Nat.mul_le_mul_right _ (of_decide_eq_true (by first|(with_reducible assumption)|assumption):(l0.length:Int).toNat≤8796093022208)) (by omega)) (Below.refl _ _) (Nat.le_refl _) ?_;intro v210 w4 ho5 hb hg_ hnew_;clear hg_ hnew_;(first|rw [← Ny209.out] at ho5|(simp only [Int.reduceToNat] at ho5;rw [← Ny209.out] at ho5));have n0_:=Xa.mk (Kd.Yb ho5 (Xc (bl_ HB)));have n1_:=Xa.mk (Xd (bl_ HB) hb);clear HB;have HO211:=n0_;have HB:=n1_;clear n0_ n1_;clear hb ho5))
   go_loopg [4] k (fun kq v4 w'=>∃ (x3_1:List (S36)) (x4_1:Int),v4=.int .i64 x4_1∧Xa (Xr.l0 kq l0 x3_1 x4_1=some r)∧Xa (kq≤k)∧Xa (Kd.R k36 36 w' w.heap.size (fun _=>True) v210 x3_1)∧Xa (Below w.heap.size w w'))
   case atStart=>exact ⟨(y209),(0),(by first|rfl|(simp;done)|(simp [*];done)),H',⟨Nat.le_refl _⟩,⟨Kd.ra_ (HO211.out)⟩,⟨bl_ HB⟩⟩
   case round=>
    clear H'
    try clear c2
    try clear c2b0
    try clear c2b1
    try clear p2
    try clear c3
    try clear c3b0
    try clear c3b1
    obtain ⟨x3_1,x4_1,rfl,HA,HK1,HO_3,HB⟩:=hrel
    cases gk with
    |zero=>exact absurd HA.out (by simp [Xr.l0])
    |succ k1=>
     have H:=HA.out;clear HA;simp only [Xr.l0] at H;by_cases c6:x4_1<(l0.length:Int)
     ·rw [if_pos c6] at H;have c6b0:decide (x4_1<(l0.length:Int))=true:=decide_eq_true c6;clear c6;by_cases c7:0≤x4_1
      ·rw [if_pos c7] at H;have c7b0:decide (0≤x4_1)=true:=decide_eq_true c7;clear c7;replace H:=Option.bind_eq_some_iff.mp H;obtain ⟨⟨t213,t214,t215,t216⟩,A80,H⟩:=H;replace H:(if x4_1<(x3_1.length:Int) then (Xr.l0 k1 l0 (x3_1.set (x4_1:Int).toNat (⟨t213,t214,t215,t216⟩:S36)) (wrap64 (x4_1+1))) else (none))=some r:=H;have A8:=Xa.mk A80;clear A80;by_cases c9:x4_1<(x3_1.length:Int)
       ·rw [if_pos c9] at H;have c9b0:decide (x4_1<(x3_1.length:Int))=true:=decide_eq_true c9;clear c9;obtain ⟨y217,hy217⟩:∃ y_:List (S36),y_=(x3_1.set (x4_1:Int).toNat (⟨t213,t214,t215,t216⟩:S36)):=⟨_,rfl⟩
        replace H:(Xr.l0 k1 l0 y217 (wrap64 (x4_1+1)))=some r:=by subst hy217;first|with_reducible exact H|(have z:=(Option.bind_some _ _).symm.trans H;with_reducible exact z)|exact H
        have Ny217:=Xa.mk hy217;clear hy217;have H':=Xa.mk H;clear H;have p212:0≤(x4_1:Int):=of_decide_eq_true (by first|(with_reducible assumption)|assumption);have q212:x4_1<(l0.length:Int):=of_decide_eq_true (by first|(with_reducible assumption)|assumption);obtain ⟨ad212,e212,hx212_0,hx212_1,hx212_2,hx212_3⟩:=at_T41 HR0.out x4_1 p212 q212;cases e212
        replace hx212_0:=(HB.out.cell (World.block_lt_of_cell? w _ hx212_0)).trans hx212_0;replace hx212_1:=(HB.out.cell (World.block_lt_of_cell? w _ hx212_1)).trans hx212_1;replace hx212_2:=(HB.out.cell (World.block_lt_of_cell? w _ hx212_2)).trans hx212_2;replace hx212_3:=(HB.out.cell (World.block_lt_of_cell? w _ hx212_3)).trans hx212_3;replace p212:=eq_true p212;replace q212:=eq_true q212;go_wp2_with (first|((with_reducible refine Xl (f:=15) rfl ?_);refine Ym (some 20) rfl rfl Tryd.func15 (by kernel_rfl) rfl #[.agg #[.int .i64 ((rd_T41 l0 x4_1).f0),.int .i64 ((rd_T41 l0 x4_1).f1),.int .i64 ((rd_T41 l0 x4_1).f2),.int .i64 ((rd_T41 l0 x4_1).f3)]] rfl ga_ ?_;(with_reducible refine (laws_toIns.calls ((rd_T41 l0 x4_1).f0) ((rd_T41 l0 x4_1).f1) ((rd_T41 l0 x4_1).f2) ((rd_T41 l0 x4_1).f3) t213 t214 t215 t216 _ A8.out).mono ?_);rintro e w11 ⟨rfl,hb⟩;refine ⟨_,rfl,?_⟩;have n0_:=Xa.mk (Kd.Yj (Kd.ra_ (HO_3.out)) hb);have n1_:=Xa.mk (Xd (bl_ HB) hb);clear HO_3;clear HB;have HO_3:=n0_;have HB:=n1_;clear n0_ n1_;(try clear hb);(try clear hb2);(try clear hk);(try clear hi);have p10:0≤(x4_1:Int):=of_decide_eq_true (by first|(with_reducible assumption)|assumption);have q10:(x4_1:Int)<((x3_1.length:Int):Int):=of_decide_eq_true (by first|(with_reducible assumption)|assumption);obtain ⟨go10,co10,eo10,gb10,gl10,cl10,HG10⟩:=Kd.R_form HO_3.out (by omega);(first|cases eo10|(injection eo10 with ea_ en_ ec_;(first|subst ea_|(injection ea_ with ea_;subst ea_));subst ec_;clear en_));have GB10:=Xa.mk gb10;have GG10:=Xa.mk HG10;clear gb10 gl10 HG10;obtain ⟨ce10,hcl10,hM10,hcc10,hfr10⟩:=Kd.R_elem HO_3.out z36 (x4_1:Int) p10 q10;obtain rfl:=k36_openM hM10;have hx10_0:w11.cell? ⟨go10,(x4_1:Int).toNat * 4,none⟩=some (.int .i64 ((Xb x3_1 x4_1).f0)):=hcc10 0 _ rfl;have hx10_1:w11.cell? ⟨go10,(x4_1:Int).toNat * 4+1,none⟩=some (.int .i64 ((Xb x3_1 x4_1).f1)):=hcc10 1 _ rfl;have hx10_2:w11.cell? ⟨go10,(x4_1:Int).toNat * 4+2,none⟩=some (.int .i64 ((Xb x3_1 x4_1).f2)):=hcc10 2 _ rfl;have hx10_3:w11.cell? ⟨go10,(x4_1:Int).toNat * 4+3,none⟩=some (.int .i64 ((Xb x3_1 x4_1).f3)):=hcc10 3 _ rfl;have hf10_0:w11.frozen? ⟨go10,(x4_1:Int).toNat * 4,none⟩=false:=hfr10 0;have hf10_1:w11.frozen? ⟨go10,(x4_1:Int).toNat * 4+1,none⟩=false:=hfr10 1;have hf10_2:w11.frozen? ⟨go10,(x4_1:Int).toNat * 4+2,none⟩=false:=hfr10 2;have hf10_3:w11.frozen? ⟨go10,(x4_1:Int).toNat * 4+3,none⟩=false:=hfr10 3;clear hcl10 hcc10 hfr10 hM10;replace p10:=eq_true p10;replace q10:=eq_true q10;have HX12:=Xa.mk (show Kd.R k36 36 w11 w.heap.size (fun _=>True) (.slice (some ⟨go10,0,none⟩) x3_1.length co10) x3_1 from (Kd.ra_ (HO_3.out)));obtain ⟨ce12,hcl12,hM12,hcc12,hfr12⟩:=Kd.R_elem HX12.out z36 (x4_1:Int) (of_decide_eq_true (by first|(with_reducible assumption)|assumption)) (by have h_:(x4_1:Int)<((x3_1.length:Int):Int):=of_decide_eq_true (by first|(with_reducible assumption)|assumption);first|exact h_|(have e_:=(Kd.R_reads' HO_3.out).1;omega)|simpa using h_);obtain rfl:=k36_openM hM12;have HP12:=Kd.R_seg HX12.out (x4_1:Int) (of_decide_eq_true (by first|(with_reducible assumption)|assumption)) (by have h_:(x4_1:Int)<((x3_1.length:Int):Int):=of_decide_eq_true (by first|(with_reducible assumption)|assumption);first|exact h_|(have e_:=(Kd.R_reads' HO_3.out).1;omega)|simpa using h_) (seg:=[.int .i64 t213,.int .i64 t214,.int .i64 t215,.int .i64 t216]) (j:=0) hcl12 hcc12 (show 4≤4 from by decide) (x':=(⟨t213,t214,t215,t216⟩:S36)) (k36_mkM _ _ _ (⟨t213,t214,t215,t216⟩:S36) ) (fun _ hk=>hk);have hx12_0:=hcc12 0 _ rfl;(try simp only [show (k36).sz=4 from rfl,Nat.mul_one,Nat.add_zero] at hx12_0);have hf12_0:=hfr12 0;(try simp only [show (k36).sz=4 from rfl,Nat.mul_one,Nat.add_zero] at hf12_0);have hx12_1:=hcc12 1 _ rfl;(try simp only [show (k36).sz=4 from rfl,Nat.mul_one,Nat.add_zero] at hx12_1);have hf12_1:=hfr12 1;(try simp only [show (k36).sz=4 from rfl,Nat.mul_one,Nat.add_zero] at hf12_1);have hx12_2:=hcc12 2 _ rfl;(try simp only [show (k36).sz=4 from rfl,Nat.mul_one,Nat.add_zero] at hx12_2);have hf12_2:=hfr12 2;(try simp only [show (k36).sz=4 from rfl,Nat.mul_one,Nat.add_zero] at hf12_2);have hx12_3:=hcc12 3 _ rfl;(try simp only [show (k36).sz=4 from rfl,Nat.mul_one,Nat.add_zero] at hx12_3);have hf12_3:=hfr12 3;(try simp only [show (k36).sz=4 from rfl,Nat.mul_one,Nat.add_zero] at hf12_3);clear hcl12 hcc12 hfr12 hM12)|((with_reducible refine gate_store (t:=36) (p:=21) rfl ?_);refine store_event (t:=36) (p:=21) (v:=?vo_w13) (w1:=((((w11.setCell ⟨go10,(x4_1:Int).toNat * 4,none⟩ (.int .i64 t213)).setCell ⟨go10,(x4_1:Int).toNat * 4+1,none⟩ (.int .i64 t214)).setCell ⟨go10,(x4_1:Int).toNat * 4+2,none⟩ (.int .i64 t215)).setCell ⟨go10,(x4_1:Int).toNat * 4+3,none⟩ (.int .i64 t216))) ?hg ?ho ?hn ?hr ?_;(case ho=>rfl);(case hg=>rfl);(case hn=>rfl);(case hr=>first|(go_simp;done)|(go_simp;rfl));intro w13 hw;have hg:w11.grownBy w13 (some go10):=(by rw [hw];exact HP12.2);have hp_:Kd.R k36 36 w13 w.heap.size (fun _=>True) (.slice (some ⟨go10,0,none⟩) x3_1.length co10) y217:=(by rw [hw,Ny217.out];exact HP12.1);clear HP12;have n0_:=Xa.mk (hp_);have n1_:=Xa.mk ((by rw [hw];exact below_set (below_set (below_set (below_set (HB.out) GB10.out) GB10.out) GB10.out) GB10.out:Below w.heap.size w w13));clear HO_3;clear HB;have HO_3:=n0_;have HB:=n1_;clear n0_ n1_;clear hg hw hp_))
        go_roundg k1
        case measure=>have:=HK1.out;omega
        case rel=>exact ⟨(y217),(wrap64 (x4_1+1)),(by first|rfl|(simp;done)|(simp [*];done)),H',⟨by have:=HK1.out;omega⟩,⟨Kd.ra_ (HO_3.out)⟩,⟨bl_ HB⟩⟩
       ·rw [if_neg c9] at H;exact absurd H (by simp)
      ·rw [if_neg c7] at H;exact absurd H (by simp)
     ·rw [if_neg c6] at H;have c6b0:decide (x4_1<(l0.length:Int))=false:=decide_eq_false c6;clear c6;obtain rfl:=Option.some.inj H;go_wp2
      go_ret
      exact ⟨_,rf_,Kd.ra_ (HO_3.out),bl_ HB⟩
  ·rw [if_neg c3] at H;exact absurd H (by simp)
 ·rw [if_neg c2] at H;exact absurd H (by simp)
def impl_fits.f (a0:Int) (a1:Int):Option (Bool):=if a0=0 then (some true) else (if a0 > 0 then (some (decide (a0<a1))) else (some false))
set_option maxHeartbeats 8000000 in
set_option maxRecDepth 100000 in
theorem impl_fits.calls (a0:Int) (a1:Int) (r:Bool) (w:World) (h:impl_fits.f a0 a1=some r) :
  Calls Tryd.prog 34 #[.int .i64 a0,.int .i64 a1] w fun e w'=>e=.returned (.bool r)∧Drawn0 w w':=by
 have H:(if a0=0 then (some true) else (if a0 > 0 then (some (decide (a0<a1))) else (some false)))=some r:=h;clear h;by_cases c3:a0=0
 ·rw [if_pos c3] at H;have c3b0:(a0 == 0)=true:=beq_iff_eq.mpr c3;have c3b1:(a0 != 0)=false:=bne_eq_false_iff_eq.mpr c3;clear c3;obtain rfl:=Option.some.inj H
  go_enter Tryd.func34,Tryd.ntmps34
  go_wp2
  go_ret
  exact ⟨by first|rfl|(simp;done)|(simp [*];done),by repeat (first|exact Drawn0.refl _|apply Drawn0.step)⟩
 ·rw [if_neg c3] at H;have c3b0:(a0 == 0)=false:=beq_eq_false_iff_ne.mpr c3;have c3b1:(a0 != 0)=true:=bne_iff_ne.mpr c3;by_cases c4:a0 > 0
  ·rw [if_pos c4] at H;have c4b0:decide (0<a0)=true:=decide_eq_true c4;clear c4;obtain rfl:=Option.some.inj H
   go_enter Tryd.func34,Tryd.ntmps34
   go_wp2
   go_ret
   exact ⟨by first|rfl|(simp;done)|(simp [*];done),by repeat (first|exact Drawn0.refl _|apply Drawn0.step)⟩
  ·rw [if_neg c4] at H;have c4b0:decide (0<a0)=false:=decide_eq_false c4;clear c4;obtain rfl:=Option.some.inj H
   go_enter Tryd.func34,Tryd.ntmps34
   go_wp2
   go_ret
   exact ⟨by first|rfl|(simp;done)|(simp [*];done),by repeat (first|exact Drawn0.refl _|apply Drawn0.step)⟩
end Go.Proofs.YtdkcjecllbdljaaDoor.GCode
