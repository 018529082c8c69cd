import Derived.Test.YtdkcjecllbdljaaDoorCFnCodeLines22
import Derived.Test.YtdkcjecllbdljaaDoorCFnCodeLines28
import Derived.Test.YtdkcjecllbdljaaDoorCFnCodeLines29
namespace Go.Proofs.YtdkcjecllbdljaaDoor.GCode
open Go.RowKit Go.Proofs.YtdkcjecllbdljaaDoorW.PrintWords Go.Proofs.YtdkcjecllbdljaaDoorW.PrintLast Go.Proofs.YtdkcjecllbdljaaDoorW.PrintMore
attribute [local go_sem] Zy Ua Uo Uq Zp Zq Zz Ub
set_option linter.unusedVariables false
set_option linter.unusedSimpArgs false
mutual
def Yi.l0:Nat→List (S36)→ByteArray→Int→Option (ByteArray)
 |0,_,_,_=>none
 |k+1,x0,x3,x4=>if x4<(x0.length:Int) then (if 0≤x4 then ((spec_l4Word.f ((Xb x0 x4).f0)).bind fun bt198=>((Zk.f k ((Xb x0 x4).f0) ((Xb x0 x4).f1) ((Xb x0 x4).f2) ((Xb x0 x4).f3)).bind fun t201=>(Yi.l1 k x0 x3 x4 bt198.1 t201 0))) else (none)) else (some x3)
def Yi.l1:Nat→List (S36)→ByteArray→Int→ByteArray→List Int→Int→Option (ByteArray)
 |0,_,_,_,_,_,_=>none
 |k+1,x0,x3,x4,x5,x7,x8=>if x8<(x7.length:Int) then (if x5.size+1≤9223372036854775807 then (if 0≤x8 then ((Zj.f k (rd x7 x8)).bind fun t205=>(if (x5 ++ (⟨#[32]⟩:ByteArray)).size+t205.size≤9223372036854775807 then (Yi.l1 k x0 x3 x4 ((x5 ++ (⟨#[32]⟩:ByteArray)) ++ t205) x7 (wrap64 (x8+1))) else (none))) else (none)) else (none)) else (if x3.size+x5.size≤9223372036854775807 then (if (x3 ++ x5).size+1≤9223372036854775807 then (Yi.l0 k x0 ((x3 ++ x5) ++ (⟨#[10]⟩:ByteArray)) (wrap64 (x4+1))) else (none)) else (none))
end
def Yi.f (k:Nat) (l0:List (S36)):Option (ByteArray):=(Yh.f k l0).bind fun t196=>(if t196=true then (Yi.l0 k l0 (⟨#[]⟩:ByteArray) 0) else (some (⟨#[]⟩:ByteArray)))
set_option maxHeartbeats 8000000 in
set_option maxRecDepth 100000 in
theorem Yi.calls (k:Nat) (A0:Option Addr) (c0:Nat) (l0:List (S36)) (r:ByteArray) (w:World) (hr0:Kd.C k36 w A0 l0.length l0) (hc0:l0.length≤c0) (h:Yi.f k l0=some r) :
  Calls Tryd.prog 6 #[.slice A0 l0.length c0] w fun e w'=>e=.returned (.string r)∧Below w.heap.size w w':=by
 have hu36:=Tryd.underlying36;have HR0:=Xa.mk hr0;have HC0:=Xa.mk hc0;clear hr0 hc0;have HB:=Xa.mk (Below.refl w.heap.size w);have H:((Yh.f k l0).bind fun t196=>(if t196=true then (Yi.l0 k l0 (⟨#[]⟩:ByteArray) 0) else (some (⟨#[]⟩:ByteArray))))=some r:=h;clear h;replace H:=Option.bind_eq_some_iff.mp H;obtain ⟨t196,A20,H⟩:=H;replace H:(if t196=true then (Yi.l0 k l0 (⟨#[]⟩:ByteArray) 0) else (some (⟨#[]⟩:ByteArray)))=some r:=H;have A2:=Xa.mk A20;clear A20;by_cases c3:t196=true
 ·subst c3
  have H1:(Yi.l0 k l0 (⟨#[]⟩:ByteArray) 0)=some r:=by rw [if_pos rfl] at H;exact H
  clear H;have H:=H1;clear H1;have H':=Xa.mk H;clear H
  go_enter Tryd.func6,Tryd.ntmps6
  go_wp2_with (first|((with_reducible refine Xj (f:=11) rfl ?_);refine Yu (some 10) rfl rfl Tryd.func11 (by kernel_rfl) rfl #[.slice A0 l0.length c0] rfl ga_ ?_;(with_reducible refine (Yh.calls k _ _ l0 true _ ?side1 ?side2 A2.out).mono ?_);(case side1=>repeat (first|exact HR0.out|(with_reducible refine Kd.Yc ?_ _)|(with_reducible refine Kd.Yd ?_ _)|(with_reducible refine Kd.Yo ?_)));(case side2=>exact HC0.out);rintro e w4 ⟨rfl,hb⟩;refine ⟨_,rfl,?_⟩;have n0_:=Xa.mk (Xc (bl_ HB) hb);clear HB;have HB:=n0_;clear n0_;(try clear hb);(try clear hb2);(try clear hk);(try clear hi)))
  go_loopg [3,4] k (fun kq v3 v4 w'=>∃ (x3_1:ByteArray) (x4_1:Int),v3=.string x3_1∧v4=.int .i64 x4_1∧Xa (Yi.l0 kq l0 x3_1 x4_1=some r)∧Xa (kq≤k)∧Xa (Below w.heap.size w w'))
  case atStart=>exact ⟨((⟨#[]⟩:ByteArray)),(0),(by first|rfl|(simp;done)|(simp [*];done)),(by first|rfl|(simp;done)|(simp [*];done)),H',⟨Nat.le_refl _⟩,⟨bl_ HB⟩⟩
  case round=>
   clear H'
   try clear c1
   try clear p2
   try clear c3
   obtain ⟨x3_1,x4_1,rfl,rfl,HA,HK1,HB⟩:=hrel
   cases gk with
   |zero=>exact absurd HA.out (by simp [Yi.l0])
   |succ k1=>
    have H:=HA.out;clear HA;simp only [Yi.l0] at H;by_cases c5:x4_1<(l0.length:Int)
    ·rw [if_pos c5] at H;have c5b0:decide (x4_1<(l0.length:Int))=true:=decide_eq_true c5;clear c5;by_cases c6:0≤x4_1
     ·rw [if_pos c6] at H;have c6b0:decide (0≤x4_1)=true:=decide_eq_true c6;clear c6;replace H:=Option.bind_eq_some_iff.mp H;obtain ⟨⟨t198,t199⟩,A70,H⟩:=H;replace H:((Zk.f k1 ((Xb l0 x4_1).f0) ((Xb l0 x4_1).f1) ((Xb l0 x4_1).f2) ((Xb l0 x4_1).f3)).bind fun t201=>(Yi.l1 k1 l0 x3_1 x4_1 t198 t201 0))=some r:=H;have A7:=Xa.mk A70;clear A70;replace H:=Option.bind_eq_some_iff.mp H;obtain ⟨t201,A80,H⟩:=H;replace H:(Yi.l1 k1 l0 x3_1 x4_1 t198 t201 0)=some r:=H;have A8:=Xa.mk A80;clear A80;have H':=Xa.mk H;clear H;have p197:0≤(x4_1:Int):=of_decide_eq_true (by first|(with_reducible assumption)|assumption);have q197:x4_1<(l0.length:Int):=of_decide_eq_true (by first|(with_reducible assumption)|assumption);obtain ⟨ad197,e197,hx197_0,hx197_1,hx197_2,hx197_3⟩:=at_T36 HR0.out x4_1 p197 q197;cases e197
      replace hx197_0:=(HB.out.cell (World.block_lt_of_cell? w _ hx197_0)).trans hx197_0;replace hx197_1:=(HB.out.cell (World.block_lt_of_cell? w _ hx197_1)).trans hx197_1;replace hx197_2:=(HB.out.cell (World.block_lt_of_cell? w _ hx197_2)).trans hx197_2;replace hx197_3:=(HB.out.cell (World.block_lt_of_cell? w _ hx197_3)).trans hx197_3;replace p197:=eq_true p197;replace q197:=eq_true q197;go_wp2_with (first|((with_reducible refine Xj (f:=12) rfl ?_);refine Yu (some 25) rfl rfl Tryd.func12 (by kernel_rfl) rfl #[.int .i64 ((Xb l0 x4_1).f0)] rfl ga_ ?_;(with_reducible refine (spec_l4Word.calls ((Xb l0 x4_1).f0) t198 t199 _ A7.out).mono ?_);rintro e w9 ⟨rfl,hb⟩;refine ⟨_,rfl,?_⟩;have n0_:=Xa.mk (Xc (bl_ HB) hb);clear HB;have HB:=n0_;clear n0_;(try clear hb);(try clear hb2);(try clear hk);(try clear hi);have p200:0≤(x4_1:Int):=of_decide_eq_true (by first|(with_reducible assumption)|assumption);have q200:x4_1<(l0.length:Int):=of_decide_eq_true (by first|(with_reducible assumption)|assumption);obtain ⟨ad200,e200,hx200_0,hx200_1,hx200_2,hx200_3⟩:=at_T36 HR0.out x4_1 p200 q200;obtain rfl:ad197=ad200:=(by injection e200);replace hx200_0:=(HB.out.cell (World.block_lt_of_cell? w _ hx200_0)).trans hx200_0;replace hx200_1:=(HB.out.cell (World.block_lt_of_cell? w _ hx200_1)).trans hx200_1;replace hx200_2:=(HB.out.cell (World.block_lt_of_cell? w _ hx200_2)).trans hx200_2;replace hx200_3:=(HB.out.cell (World.block_lt_of_cell? w _ hx200_3)).trans hx200_3;replace p200:=eq_true p200;replace q200:=eq_true q200)|((with_reducible refine Xj (f:=13) rfl ?_);refine Yu (some 32) rfl rfl Tryd.func13 (by kernel_rfl) rfl #[.agg #[.int .i64 ((Xb l0 x4_1).f0),.int .i64 ((Xb l0 x4_1).f1),.int .i64 ((Xb l0 x4_1).f2),.int .i64 ((Xb l0 x4_1).f3)]] rfl ga_ ?_;(with_reducible refine (Zk.calls k1 ((Xb l0 x4_1).f0) ((Xb l0 x4_1).f1) ((Xb l0 x4_1).f2) ((Xb l0 x4_1).f3) t201 _ A8.out).mono ?_);rintro e w10 ⟨v202,rfl,ho0,hb⟩;refine ⟨_,rfl,?_⟩;have n0_:=Xa.mk (Kd.Ye ho0 (Xd (bl_ HB)));have n1_:=Xa.mk (Xc (bl_ HB) hb);clear HB;have HO203:=n0_;have HB:=n1_;clear n0_ n1_;(try clear hb);(try clear hb2);(try clear hk);(try clear hi);(try clear ho0)))
      go_loopg [5,8] k1 (fun kq v5 v8 w'=>∃ (x5_2:ByteArray) (x8_2:Int),v5=.string x5_2∧v8=.int .i64 x8_2∧Xa (Yi.l1 kq l0 x3_1 x4_1 x5_2 t201 x8_2=some r)∧Xa (kq≤k1)∧Xa (Kd.R (Kd.int .i64) 3 w' w.heap.size (fun _=>True) v202 t201)∧Xa (Below w.heap.size w w'))
      case atStart=>exact ⟨(t198),(0),(by first|rfl|(simp;done)|(simp [*];done)),(by first|rfl|(simp;done)|(simp [*];done)),H',⟨Nat.le_refl _⟩,⟨Kd.ra_ (HO203.out)⟩,⟨bl_ HB⟩⟩
      case round=>
       clear H'
       try clear c1
       try clear p1
       try clear q1
       try clear hx1
       try clear p2
       try clear q2
       try clear hx2
       try clear c3
       try clear c5
       try clear c5b0
       try clear c6
       try clear c6b0
       try clear hx197_0
       try clear hx197_1
       try clear hx197_2
       try clear hx197_3
       try clear hx200_0
       try clear hx200_1
       try clear hx200_2
       try clear hx200_3
       try clear p197
       try clear p2
       try clear p200
       try clear q197
       try clear q200
       obtain ⟨x5_2,x8_2,rfl,rfl,HA,HK2,HO_7,HB⟩:=hrel
       cases gk with
       |zero=>exact absurd HA.out (by simp [Yi.l1])
       |succ k2=>
        have H:=HA.out;clear HA;simp only [Yi.l1] at H;by_cases c11:x8_2<(t201.length:Int)
        ·rw [if_pos c11] at H;have c11b0:decide (x8_2<(t201.length:Int))=true:=decide_eq_true c11;clear c11;by_cases c12:x5_2.size+1≤9223372036854775807
         ·rw [if_pos c12] at H;have c12b0:=eq_true c12;have c12b1:decide (x5_2.size+1≤9223372036854775807)=true:=decide_eq_true c12
          try have c12b2:(9223372036854775807<x5_2.size+1)=False:=eq_false (Nat.not_lt.2 c12)
          by_cases c13:0≤x8_2
          ·rw [if_pos c13] at H;have c13b0:decide (0≤x8_2)=true:=decide_eq_true c13;clear c13;replace H:=Option.bind_eq_some_iff.mp H;obtain ⟨t205,A140,H⟩:=H;replace H:(if (x5_2 ++ (⟨#[32]⟩:ByteArray)).size+t205.size≤9223372036854775807 then (Yi.l1 k2 l0 x3_1 x4_1 ((x5_2 ++ (⟨#[32]⟩:ByteArray)) ++ t205) t201 (wrap64 (x8_2+1))) else (none))=some r:=H;have A14:=Xa.mk A140;clear A140;by_cases c15:(x5_2 ++ (⟨#[32]⟩:ByteArray)).size+t205.size≤9223372036854775807
           ·rw [if_pos c15] at H;have c15b0:=eq_true c15;have c15b1:decide ((x5_2 ++ (⟨#[32]⟩:ByteArray)).size+t205.size≤9223372036854775807)=true:=decide_eq_true c15
            have c15s:(x5_2.size+1)+t205.size≤9223372036854775807:=by have h_:=c15;simp only [ByteArray.size_append] at h_;exact h_
            have c15s0:=eq_true c15s;have c15s1:decide ((x5_2.size+1)+t205.size≤9223372036854775807)=true:=decide_eq_true c15s
            try have c15s2:(9223372036854775807<(x5_2.size+1)+t205.size)=False:=eq_false (Nat.not_lt.2 c15s)
            try have c15b2:(9223372036854775807<(x5_2 ++ (⟨#[32]⟩:ByteArray)).size+t205.size)=False:=eq_false (Nat.not_lt.2 c15)
            have H':=Xa.mk H;clear H;obtain ⟨Ao16,co16,eo16⟩:=Kd.Zd HO_7.out;subst eo16;have p204:0≤(x8_2:Int):=of_decide_eq_true (by first|(with_reducible assumption)|assumption);have q204:x8_2<(t201.length:Int):=of_decide_eq_true (by first|(with_reducible assumption)|assumption);obtain ⟨ad204,e204,hx204_0⟩:=Kd.Zr (Kd.R_reads' HO_7.out).2.2 x8_2 p204 q204;cases e204
            replace p204:=eq_true p204;replace q204:=eq_true q204;go_wp2_with (first|((with_reducible refine Xj (f:=14) rfl ?_);refine Yu (some 45) rfl rfl Tryd.func14 (by kernel_rfl) rfl #[.int .i64 (rd t201 x8_2)] rfl ga_ ?_;(with_reducible refine (Zj.calls k2 (rd t201 x8_2) t205 _ A14.out).mono ?_);rintro e w17 ⟨rfl,hb⟩;refine ⟨_,rfl,?_⟩;have n0_:=Xa.mk (Kd.Uc (Kd.ra_ (HO_7.out)) hb);have n1_:=Xa.mk (Xc (bl_ HB) hb);clear HO_7;clear HB;have HO_7:=n0_;have HB:=n1_;clear n0_ n1_;(try clear hb);(try clear hb2);(try clear hk);(try clear hi)))
            go_roundg k2
            case measure=>have:=HK1.out;have:=HK2.out;omega
            case rel=>exact ⟨((x5_2 ++ (⟨#[32]⟩:ByteArray)) ++ t205),(wrap64 (x8_2+1)),(by first|rfl|(simp;done)|(simp [*];done)),(by first|rfl|(simp;done)|(simp [*];done)),H',⟨by have:=HK1.out;have:=HK2.out;omega⟩,⟨Kd.ra_ (HO_7.out)⟩,⟨bl_ HB⟩⟩
           ·rw [if_neg c15] at H;exact absurd H (by simp)
          ·rw [if_neg c13] at H;exact absurd H (by simp)
         ·rw [if_neg c12] at H;exact absurd H (by simp)
        ·rw [if_neg c11] at H;have c11b0:decide (x8_2<(t201.length:Int))=false:=decide_eq_false c11;clear c11;by_cases c18:x3_1.size+x5_2.size≤9223372036854775807
         ·rw [if_pos c18] at H;have c18b0:=eq_true c18;have c18b1:decide (x3_1.size+x5_2.size≤9223372036854775807)=true:=decide_eq_true c18
          try have c18b2:(9223372036854775807<x3_1.size+x5_2.size)=False:=eq_false (Nat.not_lt.2 c18)
          by_cases c19:(x3_1 ++ x5_2).size+1≤9223372036854775807
          ·rw [if_pos c19] at H;have c19b0:=eq_true c19;have c19b1:decide ((x3_1 ++ x5_2).size+1≤9223372036854775807)=true:=decide_eq_true c19
           have c19s:(x3_1.size+x5_2.size)+1≤9223372036854775807:=by have h_:=c19;simp only [ByteArray.size_append] at h_;exact h_
           have c19s0:=eq_true c19s;have c19s1:decide ((x3_1.size+x5_2.size)+1≤9223372036854775807)=true:=decide_eq_true c19s
           try have c19s2:(9223372036854775807<(x3_1.size+x5_2.size)+1)=False:=eq_false (Nat.not_lt.2 c19s)
           try have c19b2:(9223372036854775807<(x3_1 ++ x5_2).size+1)=False:=eq_false (Nat.not_lt.2 c19)
           have H':=Xa.mk H;clear H;obtain ⟨Ao20,co20,eo20⟩:=Kd.Zd HO_7.out;subst eo20;go_wp2
           go_roundg k2
           case measure=>have:=HK1.out;have:=HK2.out;omega
           case rel=>exact ⟨((x3_1 ++ x5_2) ++ (⟨#[10]⟩:ByteArray)),(wrap64 (x4_1+1)),(by first|rfl|(simp;done)|(simp [*];done)),(by first|rfl|(simp;done)|(simp [*];done)),H',⟨by have:=HK1.out;have:=HK2.out;omega⟩,⟨bl_ HB⟩⟩
          ·rw [if_neg c19] at H;exact absurd H (by simp)
         ·rw [if_neg c18] at H;exact absurd H (by simp)
     ·rw [if_neg c6] at H;exact absurd H (by simp)
    ·rw [if_neg c5] at H;have c5b0:decide (x4_1<(l0.length:Int))=false:=decide_eq_false c5;clear c5;obtain rfl:=Option.some.inj H;go_wp2
     go_ret
     exact ⟨rf_,bl_ HB⟩
 ·replace c3:=Bool.eq_false_iff.mpr c3;subst c3
  have H1:(some (⟨#[]⟩:ByteArray))=some r:=by rw [if_neg (show ¬ (false=true) by decide)] at H;exact H
  clear H;have H:=H1;clear H1;obtain rfl:=Option.some.inj H
  go_enter Tryd.func6,Tryd.ntmps6
  go_wp2_with (first|((with_reducible refine Xj (f:=11) rfl ?_);refine Yu (some 10) rfl rfl Tryd.func11 (by kernel_rfl) rfl #[.slice A0 l0.length c0] rfl ga_ ?_;(with_reducible refine (Yh.calls k _ _ l0 false _ ?side1 ?side2 A2.out).mono ?_);(case side1=>repeat (first|exact HR0.out|(with_reducible refine Kd.Yc ?_ _)|(with_reducible refine Kd.Yd ?_ _)|(with_reducible refine Kd.Yo ?_)));(case side2=>exact HC0.out);rintro e w21 ⟨rfl,hb⟩;refine ⟨_,rfl,?_⟩;have n0_:=Xa.mk (Xc (bl_ HB) hb);clear HB;have HB:=n0_;clear n0_;(try clear hb);(try clear hb2);(try clear hk);(try clear hi)))
  go_ret
  exact ⟨rf_,bl_ HB⟩
def impl_fits.f (a0:Int) (a1:Int):Option (Bool):=if a0=0 then (some true) else (if a0 > 0 then (some (decide (a0<a1))) else (some false))
set_option maxHeartbeats 8000000 in
set_option maxRecDepth 100000 in
theorem impl_fits.calls (a0:Int) (a1:Int) (r:Bool) (w:World) (h:impl_fits.f a0 a1=some r) :
  Calls Tryd.prog 34 #[.int .i64 a0,.int .i64 a1] w fun e w'=>e=.returned (.bool r)∧Drawn0 w w':=by
 have H:(if a0=0 then (some true) else (if a0 > 0 then (some (decide (a0<a1))) else (some false)))=some r:=h;clear h;by_cases c3:a0=0
 ·rw [if_pos c3] at H;have c3b0:(a0 == 0)=true:=beq_iff_eq.mpr c3;have c3b1:(a0 != 0)=false:=bne_eq_false_iff_eq.mpr c3;clear c3;obtain rfl:=Option.some.inj H
  go_enter Tryd.func34,Tryd.ntmps34
  go_wp2
  go_ret
  exact ⟨by first|rfl|(simp;done)|(simp [*];done),by repeat (first|exact Drawn0.refl _|apply Drawn0.step)⟩
 ·rw [if_neg c3] at H;have c3b0:(a0 == 0)=false:=beq_eq_false_iff_ne.mpr c3;have c3b1:(a0 != 0)=true:=bne_iff_ne.mpr c3;by_cases c4:a0 > 0
  ·rw [if_pos c4] at H;have c4b0:decide (0<a0)=true:=decide_eq_true c4;clear c4;obtain rfl:=Option.some.inj H
   go_enter Tryd.func34,Tryd.ntmps34
   go_wp2
   go_ret
   exact ⟨by first|rfl|(simp;done)|(simp [*];done),by repeat (first|exact Drawn0.refl _|apply Drawn0.step)⟩
  ·rw [if_neg c4] at H;have c4b0:decide (0<a0)=false:=decide_eq_false c4;clear c4;obtain rfl:=Option.some.inj H
   go_enter Tryd.func34,Tryd.ntmps34
   go_wp2
   go_ret
   exact ⟨by first|rfl|(simp;done)|(simp [*];done),by repeat (first|exact Drawn0.refl _|apply Drawn0.step)⟩
end Go.Proofs.YtdkcjecllbdljaaDoor.GCode
