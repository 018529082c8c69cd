import Derived.Test.YtpcfebhpapdkcaaDoorCFnExactWorldText22
import Derived.Test.YtpcfebhpapdkcaaDoorCFnExactWorldText24
namespace Go.Proofs.YtpcfebhpapdkcaaDoor.GWorld
open Go.RowKit Go.Proofs.YtpcfebhpapdkcaaDoorW.PrintWords Go.Proofs.YtpcfebhpapdkcaaDoorW.PrintLast Go.Proofs.YtpcfebhpapdkcaaDoorW.PrintMore
attribute [local go_sem] max2_int min2_int max_two min_two Uc Ud max_four min_four
set_option linter.unusedVariables false
set_option linter.unusedSimpArgs false
mutual
def Xv.l0:Nat→List (S63)→Int→ByteArray→Int→Option (ByteArray)
 |0,_,_,_,_=>none
 |k+1,x0,x1,x5,x6=>if x6<(x0.length:Int) then (Xv.j1 k x0 x1 x5 x6 (decide (x1 > 0))) else (Xv.j1 k x0 x1 x5 x6 false)
def Xv.j1:Nat→List (S63)→Int→ByteArray→Int→Bool→Option (ByteArray)
 |0,_,_,_,_,_=>none
 |k+1,x0,x1,x5,x6,x15=>if x15=true then (if 0≤x6 then (if x6<(x0.length:Int) then ((Yg.f k ((Xg x0 x6).f0)).bind fun t130=>(if x5.size+t130.size≤9223372036854775807 then (if (x5 ++ t130).size+1≤9223372036854775807 then ((Yg.f k ((Xg x0 x6).f1)).bind fun t131=>(if ((x5 ++ t130) ++ (⟨#[44]⟩:ByteArray)).size+t131.size≤9223372036854775807 then (if (((x5 ++ t130) ++ (⟨#[44]⟩:ByteArray)) ++ t131).size+1≤9223372036854775807 then ((Yg.f k ((Xg x0 x6).f2)).bind fun t132=>(if ((((x5 ++ t130) ++ (⟨#[44]⟩:ByteArray)) ++ t131) ++ (⟨#[44]⟩:ByteArray)).size+t132.size≤9223372036854775807 then (if (((((x5 ++ t130) ++ (⟨#[44]⟩:ByteArray)) ++ t131) ++ (⟨#[44]⟩:ByteArray)) ++ t132).size+1≤9223372036854775807 then ((Yg.f k ((Xg x0 x6).f3)).bind fun t133=>(if ((((((x5 ++ t130) ++ (⟨#[44]⟩:ByteArray)) ++ t131) ++ (⟨#[44]⟩:ByteArray)) ++ t132) ++ (⟨#[44]⟩:ByteArray)).size+t133.size≤9223372036854775807 then ((Xv.f k ((Xg x0 x6).f4) (wrap64 (x1 - 1))).bind fun t134=>(if (((((((x5 ++ t130) ++ (⟨#[44]⟩:ByteArray)) ++ t131) ++ (⟨#[44]⟩:ByteArray)) ++ t132) ++ (⟨#[44]⟩:ByteArray)) ++ t133).size+t134.size≤9223372036854775807 then ((Xv.f k ((Xg x0 x6).f5) (wrap64 (x1 - 1))).bind fun t135=>(if ((((((((x5 ++ t130) ++ (⟨#[44]⟩:ByteArray)) ++ t131) ++ (⟨#[44]⟩:ByteArray)) ++ t132) ++ (⟨#[44]⟩:ByteArray)) ++ t133) ++ t134).size+t135.size≤9223372036854775807 then (Xv.l0 k x0 x1 (((((((((x5 ++ t130) ++ (⟨#[44]⟩:ByteArray)) ++ t131) ++ (⟨#[44]⟩:ByteArray)) ++ t132) ++ (⟨#[44]⟩:ByteArray)) ++ t133) ++ t134) ++ t135) (wrap64 (x6+1))) else (none))) else (none))) else (none))) else (none)) else (none))) else (none)) else (none))) else (none)) else (none))) else (none)) else (none)) else (if x5.size+1≤9223372036854775807 then (some (x5 ++ (⟨#[41]⟩:ByteArray))) else (none))
def Xv.f:Nat→List (S63)→Int→Option (ByteArray)
 |0,_,_=>none
 |k+1,l0,a1=>Xv.l0 k l0 a1 (⟨#[40]⟩:ByteArray) 0
end
def Xv.T6:Bool × List (List Nat × List Nat):=(true,[([],[]),([],[]),([1],[1]),([2],[2]),([0,3],[0,3]),([4],[4]),([],[]),([6],[6]),([7,3],[7]),([5,8],[5,8]),([9],[9]),([],[]),([11],[11]),([12,8],[12]),([10,13],[10,13]),([14],[14]),([],[]),([16],[16]),([17,13],[17]),([15,18],[15,18]),([],[]),([20],[20]),([],[]),([22],[22]),([21,23,18],[21,23]),([19,24],[19,24]),([],[]),([26],[26]),([],[]),([28],[28]),([27,29,24],[27,29]),([25,30],[25,30]),([31,30,0,1,2,3,4,5,6,7,8,9,10,11,12,13,14,15,16,17,18,19,20,21,22,23,24,25,26,27,28,29,30,31],[0,31])])
def Xv.B6:List Nat:=[0,0,2,6,15,31,0,64,206,511,1023,0,2048,6606,16383,32767,0,65536,211406,524287,0,1048576,0,4194304,16202190,33554431,0,67108864,0,268435456,1039612366,2147483647,4294967295]
theorem Xv.tab6:rtab .any (opsOf Tryd.f14 6)=Xv.T6:=by kernel_rfl
theorem Xv.bits6:waitsOk Xv.T6.2 Xv.B6=true:=by kernel_rfl
set_option maxHeartbeats 8000000 in
set_option maxRecDepth 100000 in
theorem Xv.calls (k:Nat):∀ (A0:Option Addr) (c0:Nat) (l0:List (S63)) (a1:Int) (r:ByteArray) (w:World) (hr0:Kd.C k63 w A0 l0.length l0) (hc0:l0.length≤c0) (h:Xv.f k l0 a1=some r),
  Calls Tryd.prog 14 #[.slice A0 l0.length c0,.int .i64 a1] w fun e w'=>e=.returned (.string r)∧Below w.heap.size w w':=by
 induction k using Nat.strongRecOn with
 |_ k ih=>
 intro A0 c0 l0 a1 r w hr0 hc0 h
 cases k with
 |zero=>exact absurd h (by simp [Xv.f])
 |succ k=>
 simp only [Xv.f] at h;have hu63:=Tryd.underlying63;have HR0:=Xa.mk hr0;have HC0:=Xa.mk hc0;clear hr0 hc0;have HB:=Xa.mk (Below.refl w.heap.size w);have H:(Xv.l0 k l0 a1 (⟨#[40]⟩:ByteArray) 0)=some r:=h;clear h;have H':=Xa.mk H;clear H
 go_enter Tryd.func14,Tryd.ntmps14
 go_wp2
 go_loopg [5,6] k (fun kq v5 v6 w'=>∃ (x5_1:ByteArray) (x6_1:Int),v5=.string x5_1∧v6=.int .i64 x6_1∧Xa (Xv.l0 kq l0 a1 x5_1 x6_1=some r)∧Xa (kq≤k)∧Xa (Below w.heap.size w w'))
 case atStart=>exact ⟨((⟨#[40]⟩:ByteArray)),(0),(by first|rfl|(simp;done)|(simp [*];done)),(by first|rfl|(simp;done)|(simp [*];done)),H',⟨Nat.le_refl _⟩,⟨bl_ HB⟩⟩
 case round=>
  clear H'
  try clear c1
  try clear p2
  obtain ⟨x5_1,x6_1,rfl,rfl,HA,HK1,HB⟩:=hrel
  cases gk with
  |zero=>exact absurd HA.out (by simp [Xv.l0])
  |succ k1=>
   have H:=HA.out;clear HA;simp only [Xv.l0] at H;have HC3:=Xa.mk H;clear H
   go_upto_region 3 with (fail)
   go_cut [15] (fun v15 wc=>∃ (kq:Nat) (x15_2:Bool),v15=.bool x15_2∧Xa (Xv.j1 kq l0 a1 x5_1 x6_1 x15_2=some r)∧Xa (kq≤k1)∧Xa (Below w.heap.size w wc))
   case first=>
    have H:=HC3.out;clear HC3;by_cases c4:x6_1<(l0.length:Int)
    ·rw [if_pos c4] at H;have c4b0:decide (x6_1<(l0.length:Int))=true:=decide_eq_true c4;clear c4
     (first|rw [c4b0]|(simp only [Xu,Xt];rw [c4b0])|skip)
     have H':=Xa.mk H;clear H;go_wp2
     go_meet
     case rel=>exact ⟨_,(decide (a1 > 0)),(by first|rfl|(simp;done)|(simp [*];done)),H',⟨by have:=HK1.out;first|omega|exact Nat.le_refl _⟩,⟨bl_ HB⟩⟩
    ·rw [if_neg c4] at H;have c4b0:decide (x6_1<(l0.length:Int))=false:=decide_eq_false c4;clear c4
     (first|rw [c4b0]|(simp only [Xu,Xt];rw [c4b0])|skip)
     have H':=Xa.mk H;clear H;go_wp2
     go_meet
     case rel=>exact ⟨_,(false),(by first|rfl|(simp;done)|(simp [*];done)),H',⟨by have:=HK1.out;first|omega|exact Nat.le_refl _⟩,⟨bl_ HB⟩⟩
   case rest=>
    clear HC3
    try clear c1
    try clear p2
    try clear c4
    try clear c4b0
    try clear p2
    obtain ⟨kq,x15_2,rfl,HA,HJ2,HB⟩:=hcut
    cases kq with
    |zero=>exact absurd HA.out (by simp [Xv.j1])
    |succ kj2=>
     have H:=HA.out;clear HA;simp only [Xv.j1] at H;by_cases c5:x15_2=true
     ·subst c5
      have H1:(if 0≤x6_1 then (if x6_1<(l0.length:Int) then ((Yg.f kj2 ((Xg l0 x6_1).f0)).bind fun t130=>(if x5_1.size+t130.size≤9223372036854775807 then (if (x5_1 ++ t130).size+1≤9223372036854775807 then ((Yg.f kj2 ((Xg l0 x6_1).f1)).bind fun t131=>(if ((x5_1 ++ t130) ++ (⟨#[44]⟩:ByteArray)).size+t131.size≤9223372036854775807 then (if (((x5_1 ++ t130) ++ (⟨#[44]⟩:ByteArray)) ++ t131).size+1≤9223372036854775807 then ((Yg.f kj2 ((Xg l0 x6_1).f2)).bind fun t132=>(if ((((x5_1 ++ t130) ++ (⟨#[44]⟩:ByteArray)) ++ t131) ++ (⟨#[44]⟩:ByteArray)).size+t132.size≤9223372036854775807 then (if (((((x5_1 ++ t130) ++ (⟨#[44]⟩:ByteArray)) ++ t131) ++ (⟨#[44]⟩:ByteArray)) ++ t132).size+1≤9223372036854775807 then ((Yg.f kj2 ((Xg l0 x6_1).f3)).bind fun t133=>(if ((((((x5_1 ++ t130) ++ (⟨#[44]⟩:ByteArray)) ++ t131) ++ (⟨#[44]⟩:ByteArray)) ++ t132) ++ (⟨#[44]⟩:ByteArray)).size+t133.size≤9223372036854775807 then ((Xv.f kj2 ((Xg l0 x6_1).f4) (wrap64 (a1 - 1))).bind fun t134=>(if (((((((x5_1 ++ t130) ++ (⟨#[44]⟩:ByteArray)) ++ t131) ++ (⟨#[44]⟩:ByteArray)) ++ t132) ++ (⟨#[44]⟩:ByteArray)) ++ t133).size+t134.size≤9223372036854775807 then ((Xv.f kj2 ((Xg l0 x6_1).f5) (wrap64 (a1 - 1))).bind fun t135=>(if ((((((((x5_1 ++ t130) ++ (⟨#[44]⟩:ByteArray)) ++ t131) ++ (⟨#[44]⟩:ByteArray)) ++ t132) ++ (⟨#[44]⟩:ByteArray)) ++ t133) ++ t134).size+t135.size≤9223372036854775807 then (Xv.l0 kj2 l0 a1 (((((((((x5_1 ++ t130) ++ (⟨#[44]⟩:ByteArray)) ++ t131) ++ (⟨#[44]⟩:ByteArray)) ++ t132) ++ (⟨#[44]⟩:ByteArray)) ++ t133) ++ t134) ++ t135) (wrap64 (x6_1+1))) else (none))) else (none))) else (none))) else (none)) else (none))) else (none)) else (none))) else (none)) else (none))) else (none)) else (none))=some r:=by rw [if_pos rfl] at H;exact H
      clear H;have H:=H1;clear H1;by_cases c6:0≤x6_1
      ·rw [if_pos c6] at H;have c6b0:decide (0≤x6_1)=true:=decide_eq_true c6;clear c6;by_cases c7:x6_1<(l0.length:Int)
       ·rw [if_pos c7] at H;have c7b0:decide (x6_1<(l0.length:Int))=true:=decide_eq_true c7;clear c7;replace H:=Option.bind_eq_some_iff.mp H;obtain ⟨t130,A80,H⟩:=H;replace H:(if x5_1.size+t130.size≤9223372036854775807 then (if (x5_1 ++ t130).size+1≤9223372036854775807 then ((Yg.f kj2 ((Xg l0 x6_1).f1)).bind fun t131=>(if ((x5_1 ++ t130) ++ (⟨#[44]⟩:ByteArray)).size+t131.size≤9223372036854775807 then (if (((x5_1 ++ t130) ++ (⟨#[44]⟩:ByteArray)) ++ t131).size+1≤9223372036854775807 then ((Yg.f kj2 ((Xg l0 x6_1).f2)).bind fun t132=>(if ((((x5_1 ++ t130) ++ (⟨#[44]⟩:ByteArray)) ++ t131) ++ (⟨#[44]⟩:ByteArray)).size+t132.size≤9223372036854775807 then (if (((((x5_1 ++ t130) ++ (⟨#[44]⟩:ByteArray)) ++ t131) ++ (⟨#[44]⟩:ByteArray)) ++ t132).size+1≤9223372036854775807 then ((Yg.f kj2 ((Xg l0 x6_1).f3)).bind fun t133=>(if ((((((x5_1 ++ t130) ++ (⟨#[44]⟩:ByteArray)) ++ t131) ++ (⟨#[44]⟩:ByteArray)) ++ t132) ++ (⟨#[44]⟩:ByteArray)).size+t133.size≤9223372036854775807 then ((Xv.f kj2 ((Xg l0 x6_1).f4) (wrap64 (a1 - 1))).bind fun t134=>(if (((((((x5_1 ++ t130) ++ (⟨#[44]⟩:ByteArray)) ++ t131) ++ (⟨#[44]⟩:ByteArray)) ++ t132) ++ (⟨#[44]⟩:ByteArray)) ++ t133).size+t134.size≤9223372036854775807 then ((Xv.f kj2 ((Xg l0 x6_1).f5) (wrap64 (a1 - 1))).bind fun t135=>(if ((((((((x5_1 ++ t130) ++ (⟨#[44]⟩:ByteArray)) ++ t131) ++ (⟨#[44]⟩:ByteArray)) ++ t132) ++ (⟨#[44]⟩:ByteArray)) ++ t133) ++ t134).size+t135.size≤9223372036854775807 then (Xv.l0 kj2 l0 a1 (((((((((x5_1 ++ t130) ++ (⟨#[44]⟩:ByteArray)) ++ t131) ++ (⟨#[44]⟩:ByteArray)) ++ t132) ++ (⟨#[44]⟩:ByteArray)) ++ t133) ++ t134) ++ t135) (wrap64 (x6_1+1))) else (none))) else (none))) else (none))) else (none)) else (none))) else (none)) else (none))) else (none)) else (none))=some r:=H;have A8:=Xa.mk A80;clear A80;by_cases c9:x5_1.size+t130.size≤9223372036854775807
        ·rw [if_pos c9] at H;have c9b0:=eq_true c9;have c9b1:decide (x5_1.size+t130.size≤9223372036854775807)=true:=decide_eq_true c9
         try have c9b2:(9223372036854775807<x5_1.size+t130.size)=False:=eq_false (Nat.not_lt.2 c9)
         by_cases c10:(x5_1 ++ t130).size+1≤9223372036854775807
         ·rw [if_pos c10] at H;have c10b0:=eq_true c10;have c10b1:decide ((x5_1 ++ t130).size+1≤9223372036854775807)=true:=decide_eq_true c10
          have c10s:(x5_1.size+t130.size)+1≤9223372036854775807:=by have h_:=c10;simp only [ByteArray.size_append] at h_;exact h_
          have c10s0:=eq_true c10s;have c10s1:decide ((x5_1.size+t130.size)+1≤9223372036854775807)=true:=decide_eq_true c10s
          try have c10s2:(9223372036854775807<(x5_1.size+t130.size)+1)=False:=eq_false (Nat.not_lt.2 c10s)
          try have c10b2:(9223372036854775807<(x5_1 ++ t130).size+1)=False:=eq_false (Nat.not_lt.2 c10)
          replace H:=Option.bind_eq_some_iff.mp H;obtain ⟨t131,A110,H⟩:=H;replace H:(if ((x5_1 ++ t130) ++ (⟨#[44]⟩:ByteArray)).size+t131.size≤9223372036854775807 then (if (((x5_1 ++ t130) ++ (⟨#[44]⟩:ByteArray)) ++ t131).size+1≤9223372036854775807 then ((Yg.f kj2 ((Xg l0 x6_1).f2)).bind fun t132=>(if ((((x5_1 ++ t130) ++ (⟨#[44]⟩:ByteArray)) ++ t131) ++ (⟨#[44]⟩:ByteArray)).size+t132.size≤9223372036854775807 then (if (((((x5_1 ++ t130) ++ (⟨#[44]⟩:ByteArray)) ++ t131) ++ (⟨#[44]⟩:ByteArray)) ++ t132).size+1≤9223372036854775807 then ((Yg.f kj2 ((Xg l0 x6_1).f3)).bind fun t133=>(if ((((((x5_1 ++ t130) ++ (⟨#[44]⟩:ByteArray)) ++ t131) ++ (⟨#[44]⟩:ByteArray)) ++ t132) ++ (⟨#[44]⟩:ByteArray)).size+t133.size≤9223372036854775807 then ((Xv.f kj2 ((Xg l0 x6_1).f4) (wrap64 (a1 - 1))).bind fun t134=>(if (((((((x5_1 ++ t130) ++ (⟨#[44]⟩:ByteArray)) ++ t131) ++ (⟨#[44]⟩:ByteArray)) ++ t132) ++ (⟨#[44]⟩:ByteArray)) ++ t133).size+t134.size≤9223372036854775807 then ((Xv.f kj2 ((Xg l0 x6_1).f5) (wrap64 (a1 - 1))).bind fun t135=>(if ((((((((x5_1 ++ t130) ++ (⟨#[44]⟩:ByteArray)) ++ t131) ++ (⟨#[44]⟩:ByteArray)) ++ t132) ++ (⟨#[44]⟩:ByteArray)) ++ t133) ++ t134).size+t135.size≤9223372036854775807 then (Xv.l0 kj2 l0 a1 (((((((((x5_1 ++ t130) ++ (⟨#[44]⟩:ByteArray)) ++ t131) ++ (⟨#[44]⟩:ByteArray)) ++ t132) ++ (⟨#[44]⟩:ByteArray)) ++ t133) ++ t134) ++ t135) (wrap64 (x6_1+1))) else (none))) else (none))) else (none))) else (none)) else (none))) else (none)) else (none))=some r:=H;have A11:=Xa.mk A110;clear A110;by_cases c12:((x5_1 ++ t130) ++ (⟨#[44]⟩:ByteArray)).size+t131.size≤9223372036854775807
          ·rw [if_pos c12] at H;have c12b0:=eq_true c12;have c12b1:decide (((x5_1 ++ t130) ++ (⟨#[44]⟩:ByteArray)).size+t131.size≤9223372036854775807)=true:=decide_eq_true c12
           have c12s:((x5_1.size+t130.size)+1)+t131.size≤9223372036854775807:=by have h_:=c12;simp only [ByteArray.size_append] at h_;exact h_
           have c12s0:=eq_true c12s;have c12s1:decide (((x5_1.size+t130.size)+1)+t131.size≤9223372036854775807)=true:=decide_eq_true c12s
           try have c12s2:(9223372036854775807<((x5_1.size+t130.size)+1)+t131.size)=False:=eq_false (Nat.not_lt.2 c12s)
           try have c12b2:(9223372036854775807<((x5_1 ++ t130) ++ (⟨#[44]⟩:ByteArray)).size+t131.size)=False:=eq_false (Nat.not_lt.2 c12)
           by_cases c13:(((x5_1 ++ t130) ++ (⟨#[44]⟩:ByteArray)) ++ t131).size+1≤9223372036854775807
           ·rw [if_pos c13] at H;have c13b0:=eq_true c13;have c13b1:decide ((((x5_1 ++ t130) ++ (⟨#[44]⟩:ByteArray)) ++ t131).size+1≤9223372036854775807)=true:=decide_eq_true c13
            have c13s:(((x5_1.size+t130.size)+1)+t131.size)+1≤9223372036854775807:=by have h_:=c13;simp only [ByteArray.size_append] at h_;exact h_
            have c13s0:=eq_true c13s;have c13s1:decide ((((x5_1.size+t130.size)+1)+t131.size)+1≤9223372036854775807)=true:=decide_eq_true c13s
            try have c13s2:(9223372036854775807<(((x5_1.size+t130.size)+1)+t131.size)+1)=False:=eq_false (Nat.not_lt.2 c13s)
            try have c13b2:(9223372036854775807<(((x5_1 ++ t130) ++ (⟨#[44]⟩:ByteArray)) ++ t131).size+1)=False:=eq_false (Nat.not_lt.2 c13)
            replace H:=Option.bind_eq_some_iff.mp H;obtain ⟨t132,A140,H⟩:=H;replace H:(if ((((x5_1 ++ t130) ++ (⟨#[44]⟩:ByteArray)) ++ t131) ++ (⟨#[44]⟩:ByteArray)).size+t132.size≤9223372036854775807 then (if (((((x5_1 ++ t130) ++ (⟨#[44]⟩:ByteArray)) ++ t131) ++ (⟨#[44]⟩:ByteArray)) ++ t132).size+1≤9223372036854775807 then ((Yg.f kj2 ((Xg l0 x6_1).f3)).bind fun t133=>(if ((((((x5_1 ++ t130) ++ (⟨#[44]⟩:ByteArray)) ++ t131) ++ (⟨#[44]⟩:ByteArray)) ++ t132) ++ (⟨#[44]⟩:ByteArray)).size+t133.size≤9223372036854775807 then ((Xv.f kj2 ((Xg l0 x6_1).f4) (wrap64 (a1 - 1))).bind fun t134=>(if (((((((x5_1 ++ t130) ++ (⟨#[44]⟩:ByteArray)) ++ t131) ++ (⟨#[44]⟩:ByteArray)) ++ t132) ++ (⟨#[44]⟩:ByteArray)) ++ t133).size+t134.size≤9223372036854775807 then ((Xv.f kj2 ((Xg l0 x6_1).f5) (wrap64 (a1 - 1))).bind fun t135=>(if ((((((((x5_1 ++ t130) ++ (⟨#[44]⟩:ByteArray)) ++ t131) ++ (⟨#[44]⟩:ByteArray)) ++ t132) ++ (⟨#[44]⟩:ByteArray)) ++ t133) ++ t134).size+t135.size≤9223372036854775807 then (Xv.l0 kj2 l0 a1 (((((((((x5_1 ++ t130) ++ (⟨#[44]⟩:ByteArray)) ++ t131) ++ (⟨#[44]⟩:ByteArray)) ++ t132) ++ (⟨#[44]⟩:ByteArray)) ++ t133) ++ t134) ++ t135) (wrap64 (x6_1+1))) else (none))) else (none))) else (none))) else (none)) else (none))=some r:=H;have A14:=Xa.mk A140;clear A140;by_cases c15:((((x5_1 ++ t130) ++ (⟨#[44]⟩:ByteArray)) ++ t131) ++ (⟨#[44]⟩:ByteArray)).size+t132.size≤9223372036854775807
            ·rw [if_pos c15] at H;have c15b0:=eq_true c15;have c15b1:decide (((((x5_1 ++ t130) ++ (⟨#[44]⟩:ByteArray)) ++ t131) ++ (⟨#[44]⟩:ByteArray)).size+t132.size≤9223372036854775807)=true:=decide_eq_true c15
             have c15s:((((x5_1.size+t130.size)+1)+t131.size)+1)+t132.size≤9223372036854775807:=by have h_:=c15;simp only [ByteArray.size_append] at h_;exact h_
             have c15s0:=eq_true c15s;have c15s1:decide (((((x5_1.size+t130.size)+1)+t131.size)+1)+t132.size≤9223372036854775807)=true:=decide_eq_true c15s
             try have c15s2:(9223372036854775807<((((x5_1.size+t130.size)+1)+t131.size)+1)+t132.size)=False:=eq_false (Nat.not_lt.2 c15s)
             try have c15b2:(9223372036854775807<((((x5_1 ++ t130) ++ (⟨#[44]⟩:ByteArray)) ++ t131) ++ (⟨#[44]⟩:ByteArray)).size+t132.size)=False:=eq_false (Nat.not_lt.2 c15)
             by_cases c16:(((((x5_1 ++ t130) ++ (⟨#[44]⟩:ByteArray)) ++ t131) ++ (⟨#[44]⟩:ByteArray)) ++ t132).size+1≤9223372036854775807
             ·rw [if_pos c16] at H;have c16b0:=eq_true c16;have c16b1:decide ((((((x5_1 ++ t130) ++ (⟨#[44]⟩:ByteArray)) ++ t131) ++ (⟨#[44]⟩:ByteArray)) ++ t132).size+1≤9223372036854775807)=true:=decide_eq_true c16
              have c16s:(((((x5_1.size+t130.size)+1)+t131.size)+1)+t132.size)+1≤9223372036854775807:=by have h_:=c16;simp only [ByteArray.size_append] at h_;exact h_
              have c16s0:=eq_true c16s;have c16s1:decide ((((((x5_1.size+t130.size)+1)+t131.size)+1)+t132.size)+1≤9223372036854775807)=true:=decide_eq_true c16s
              try have c16s2:(9223372036854775807<(((((x5_1.size+t130.size)+1)+t131.size)+1)+t132.size)+1)=False:=eq_false (Nat.not_lt.2 c16s)
              try have c16b2:(9223372036854775807<(((((x5_1 ++ t130) ++ (⟨#[44]⟩:ByteArray)) ++ t131) ++ (⟨#[44]⟩:ByteArray)) ++ t132).size+1)=False:=eq_false (Nat.not_lt.2 c16)
              replace H:=Option.bind_eq_some_iff.mp H;obtain ⟨t133,A170,H⟩:=H;replace H:(if ((((((x5_1 ++ t130) ++ (⟨#[44]⟩:ByteArray)) ++ t131) ++ (⟨#[44]⟩:ByteArray)) ++ t132) ++ (⟨#[44]⟩:ByteArray)).size+t133.size≤9223372036854775807 then ((Xv.f kj2 ((Xg l0 x6_1).f4) (wrap64 (a1 - 1))).bind fun t134=>(if (((((((x5_1 ++ t130) ++ (⟨#[44]⟩:ByteArray)) ++ t131) ++ (⟨#[44]⟩:ByteArray)) ++ t132) ++ (⟨#[44]⟩:ByteArray)) ++ t133).size+t134.size≤9223372036854775807 then ((Xv.f kj2 ((Xg l0 x6_1).f5) (wrap64 (a1 - 1))).bind fun t135=>(if ((((((((x5_1 ++ t130) ++ (⟨#[44]⟩:ByteArray)) ++ t131) ++ (⟨#[44]⟩:ByteArray)) ++ t132) ++ (⟨#[44]⟩:ByteArray)) ++ t133) ++ t134).size+t135.size≤9223372036854775807 then (Xv.l0 kj2 l0 a1 (((((((((x5_1 ++ t130) ++ (⟨#[44]⟩:ByteArray)) ++ t131) ++ (⟨#[44]⟩:ByteArray)) ++ t132) ++ (⟨#[44]⟩:ByteArray)) ++ t133) ++ t134) ++ t135) (wrap64 (x6_1+1))) else (none))) else (none))) else (none))=some r:=H;have A17:=Xa.mk A170;clear A170;by_cases c18:((((((x5_1 ++ t130) ++ (⟨#[44]⟩:ByteArray)) ++ t131) ++ (⟨#[44]⟩:ByteArray)) ++ t132) ++ (⟨#[44]⟩:ByteArray)).size+t133.size≤9223372036854775807
              ·rw [if_pos c18] at H;have c18b0:=eq_true c18;have c18b1:decide (((((((x5_1 ++ t130) ++ (⟨#[44]⟩:ByteArray)) ++ t131) ++ (⟨#[44]⟩:ByteArray)) ++ t132) ++ (⟨#[44]⟩:ByteArray)).size+t133.size≤9223372036854775807)=true:=decide_eq_true c18
               have c18s:((((((x5_1.size+t130.size)+1)+t131.size)+1)+t132.size)+1)+t133.size≤9223372036854775807:=by have h_:=c18;simp only [ByteArray.size_append] at h_;exact h_
               have c18s0:=eq_true c18s;have c18s1:decide (((((((x5_1.size+t130.size)+1)+t131.size)+1)+t132.size)+1)+t133.size≤9223372036854775807)=true:=decide_eq_true c18s
               try have c18s2:(9223372036854775807<((((((x5_1.size+t130.size)+1)+t131.size)+1)+t132.size)+1)+t133.size)=False:=eq_false (Nat.not_lt.2 c18s)
               try have c18b2:(9223372036854775807<((((((x5_1 ++ t130) ++ (⟨#[44]⟩:ByteArray)) ++ t131) ++ (⟨#[44]⟩:ByteArray)) ++ t132) ++ (⟨#[44]⟩:ByteArray)).size+t133.size)=False:=eq_false (Nat.not_lt.2 c18)
               replace H:=Option.bind_eq_some_iff.mp H;obtain ⟨t134,A190,H⟩:=H;replace H:(if (((((((x5_1 ++ t130) ++ (⟨#[44]⟩:ByteArray)) ++ t131) ++ (⟨#[44]⟩:ByteArray)) ++ t132) ++ (⟨#[44]⟩:ByteArray)) ++ t133).size+t134.size≤9223372036854775807 then ((Xv.f kj2 ((Xg l0 x6_1).f5) (wrap64 (a1 - 1))).bind fun t135=>(if ((((((((x5_1 ++ t130) ++ (⟨#[44]⟩:ByteArray)) ++ t131) ++ (⟨#[44]⟩:ByteArray)) ++ t132) ++ (⟨#[44]⟩:ByteArray)) ++ t133) ++ t134).size+t135.size≤9223372036854775807 then (Xv.l0 kj2 l0 a1 (((((((((x5_1 ++ t130) ++ (⟨#[44]⟩:ByteArray)) ++ t131) ++ (⟨#[44]⟩:ByteArray)) ++ t132) ++ (⟨#[44]⟩:ByteArray)) ++ t133) ++ t134) ++ t135) (wrap64 (x6_1+1))) else (none))) else (none))=some r:=H;have A19:=Xa.mk A190;clear A190;by_cases c20:(((((((x5_1 ++ t130) ++ (⟨#[44]⟩:ByteArray)) ++ t131) ++ (⟨#[44]⟩:ByteArray)) ++ t132) ++ (⟨#[44]⟩:ByteArray)) ++ t133).size+t134.size≤9223372036854775807
               ·rw [if_pos c20] at H;have c20b0:=eq_true c20;have c20b1:decide ((((((((x5_1 ++ t130) ++ (⟨#[44]⟩:ByteArray)) ++ t131) ++ (⟨#[44]⟩:ByteArray)) ++ t132) ++ (⟨#[44]⟩:ByteArray)) ++ t133).size+t134.size≤9223372036854775807)=true:=decide_eq_true c20
                have c20s:(((((((x5_1.size+t130.size)+1)+t131.size)+1)+t132.size)+1)+t133.size)+t134.size≤9223372036854775807:=by have h_:=c20;simp only [ByteArray.size_append] at h_;exact h_
                have c20s0:=eq_true c20s;have c20s1:decide ((((((((x5_1.size+t130.size)+1)+t131.size)+1)+t132.size)+1)+t133.size)+t134.size≤9223372036854775807)=true:=decide_eq_true c20s
                try have c20s2:(9223372036854775807<(((((((x5_1.size+t130.size)+1)+t131.size)+1)+t132.size)+1)+t133.size)+t134.size)=False:=eq_false (Nat.not_lt.2 c20s)
                try have c20b2:(9223372036854775807<(((((((x5_1 ++ t130) ++ (⟨#[44]⟩:ByteArray)) ++ t131) ++ (⟨#[44]⟩:ByteArray)) ++ t132) ++ (⟨#[44]⟩:ByteArray)) ++ t133).size+t134.size)=False:=eq_false (Nat.not_lt.2 c20)
                replace H:=Option.bind_eq_some_iff.mp H;obtain ⟨t135,A210,H⟩:=H;replace H:(if ((((((((x5_1 ++ t130) ++ (⟨#[44]⟩:ByteArray)) ++ t131) ++ (⟨#[44]⟩:ByteArray)) ++ t132) ++ (⟨#[44]⟩:ByteArray)) ++ t133) ++ t134).size+t135.size≤9223372036854775807 then (Xv.l0 kj2 l0 a1 (((((((((x5_1 ++ t130) ++ (⟨#[44]⟩:ByteArray)) ++ t131) ++ (⟨#[44]⟩:ByteArray)) ++ t132) ++ (⟨#[44]⟩:ByteArray)) ++ t133) ++ t134) ++ t135) (wrap64 (x6_1+1))) else (none))=some r:=H;have A21:=Xa.mk A210;clear A210;by_cases c22:((((((((x5_1 ++ t130) ++ (⟨#[44]⟩:ByteArray)) ++ t131) ++ (⟨#[44]⟩:ByteArray)) ++ t132) ++ (⟨#[44]⟩:ByteArray)) ++ t133) ++ t134).size+t135.size≤9223372036854775807
                ·rw [if_pos c22] at H;have c22b0:=eq_true c22;have c22b1:decide (((((((((x5_1 ++ t130) ++ (⟨#[44]⟩:ByteArray)) ++ t131) ++ (⟨#[44]⟩:ByteArray)) ++ t132) ++ (⟨#[44]⟩:ByteArray)) ++ t133) ++ t134).size+t135.size≤9223372036854775807)=true:=decide_eq_true c22
                 have c22s:((((((((x5_1.size+t130.size)+1)+t131.size)+1)+t132.size)+1)+t133.size)+t134.size)+t135.size≤9223372036854775807:=by have h_:=c22;simp only [ByteArray.size_append] at h_;exact h_
                 have c22s0:=eq_true c22s;have c22s1:decide (((((((((x5_1.size+t130.size)+1)+t131.size)+1)+t132.size)+1)+t133.size)+t134.size)+t135.size≤9223372036854775807)=true:=decide_eq_true c22s
                 try have c22s2:(9223372036854775807<((((((((x5_1.size+t130.size)+1)+t131.size)+1)+t132.size)+1)+t133.size)+t134.size)+t135.size)=False:=eq_false (Nat.not_lt.2 c22s)
                 try have c22b2:(9223372036854775807<((((((((x5_1 ++ t130) ++ (⟨#[44]⟩:ByteArray)) ++ t131) ++ (⟨#[44]⟩:ByteArray)) ++ t132) ++ (⟨#[44]⟩:ByteArray)) ++ t133) ++ t134).size+t135.size)=False:=eq_false (Nat.not_lt.2 c22)
                 have H':=Xa.mk H;clear H;have p128:0≤(x6_1:Int):=of_decide_eq_true (by first|(with_reducible assumption)|assumption);have q128:x6_1<(l0.length:Int):=of_decide_eq_true (by first|(with_reducible assumption)|assumption);obtain ⟨ad128,A128_4,c128_4,A128_5,c128_5,e128,hx128_0,hx128_1,hx128_2,hx128_3,hx128_4,hx128_5,hl128_4,hi128_4,hl128_5,hi128_5⟩:=at_T63 HR0.out x6_1 p128 q128;cases e128
                 replace hx128_0:=(HB.out.cell (World.block_lt_of_cell? w _ hx128_0)).trans hx128_0;replace hx128_1:=(HB.out.cell (World.block_lt_of_cell? w _ hx128_1)).trans hx128_1;replace hx128_2:=(HB.out.cell (World.block_lt_of_cell? w _ hx128_2)).trans hx128_2;replace hx128_3:=(HB.out.cell (World.block_lt_of_cell? w _ hx128_3)).trans hx128_3;replace hx128_4:=(HB.out.cell (World.block_lt_of_cell? w _ hx128_4)).trans hx128_4;replace hx128_5:=(HB.out.cell (World.block_lt_of_cell? w _ hx128_5)).trans hx128_5;have HR128_4:=Xa.mk hi128_4;have HC128_4:=Xa.mk hl128_4;clear hi128_4 hl128_4;have HR128_5:=Xa.mk hi128_5;have HC128_5:=Xa.mk hl128_5;clear hi128_5 hl128_5;replace p128:=eq_true p128;replace q128:=eq_true q128
                 try go_wp2_with (first|((with_reducible refine Xy (N:=7) rfl ?_);refine Xw ?hg (N:=7) ?hd (cs:=#[.int .i64 0,.int .i64 0,.int .i64 0,.int .i64 0,.slice none 0 0,.slice none 0 0]) (t:=63) ?hr ?_;(case hd=>rfl);(case hg=>rfl);(case hr=>first|(go_simp;done)|(go_simp;rfl));intro gb129 hg w23 hbox hb;have n0_:=Xa.mk (Xc (bl_ HB) hb);have n1_:=Xa.mk (hbox);have n2_:=Xa.mk ((by rw [hg];exact (Xb (bl_ HB)):w.heap.size≤gb129));have n3_:=Xa.mk ((by rw [hg];exact (Xb (bl_ HB)):w.heap.size≤gb129));clear HB;have HB:=n0_;have BK129:=n1_;have GW129:=n2_;have GE129:=n3_;clear n0_ n1_ n2_ n3_;clear hb hbox hg;obtain ⟨hcz24_0,hcz24_1,hcz24_2,hcz24_3,hcz24_4,hcz24_5⟩:=bc6_ BK129.out;obtain ⟨hfz24_0,hfz24_1,hfz24_2,hfz24_3,hfz24_4,hfz24_5⟩:=bf6_ BK129.out))
                 have n0_:Xa (((((((w23.setCell ⟨gb129,0,none⟩ (.int .i64 ((Xg l0 x6_1).f0))).setCell ⟨gb129,1,none⟩ (.int .i64 ((Xg l0 x6_1).f1))).setCell ⟨gb129,2,none⟩ (.int .i64 ((Xg l0 x6_1).f2))).setCell ⟨gb129,3,none⟩ (.int .i64 ((Xg l0 x6_1).f3))).setCell ⟨gb129,4,none⟩ (.slice A128_4 ((Xg l0 x6_1).f4).length c128_4)).setCell ⟨gb129,5,none⟩ (.slice A128_5 ((Xg l0 x6_1).f5).length c128_5)).heap[gb129]?=some (.cells #[.int .i64 ((Xg l0 x6_1).f0),.int .i64 ((Xg l0 x6_1).f1),.int .i64 ((Xg l0 x6_1).f2),.int .i64 ((Xg l0 x6_1).f3),.slice A128_4 ((Xg l0 x6_1).f4).length c128_4,.slice A128_5 ((Xg l0 x6_1).f5).length c128_5] 63 (0,0))):=⟨by (with_reducible repeat (first|refine Xj ?_ _|refine Xk ?_|refine Xi ?_ _));refine Yh (cs:=#[.int .i64 ((Xg l0 x6_1).f0),.int .i64 ((Xg l0 x6_1).f1),.int .i64 ((Xg l0 x6_1).f2),.int .i64 ((Xg l0 x6_1).f3),.slice A128_4 ((Xg l0 x6_1).f4).length c128_4,.slice none 0 0]) ?_ 5 _ rfl;(with_reducible repeat (first|refine Xj ?_ _|refine Xk ?_|refine Xi ?_ _));refine Yh (cs:=#[.int .i64 ((Xg l0 x6_1).f0),.int .i64 ((Xg l0 x6_1).f1),.int .i64 ((Xg l0 x6_1).f2),.int .i64 ((Xg l0 x6_1).f3),.slice none 0 0,.slice none 0 0]) ?_ 4 _ rfl;(with_reducible repeat (first|refine Xj ?_ _|refine Xk ?_|refine Xi ?_ _));refine Yh (cs:=#[.int .i64 ((Xg l0 x6_1).f0),.int .i64 ((Xg l0 x6_1).f1),.int .i64 ((Xg l0 x6_1).f2),.int .i64 0,.slice none 0 0,.slice none 0 0]) ?_ 3 _ rfl;(with_reducible repeat (first|refine Xj ?_ _|refine Xk ?_|refine Xi ?_ _));refine Yh (cs:=#[.int .i64 ((Xg l0 x6_1).f0),.int .i64 ((Xg l0 x6_1).f1),.int .i64 0,.int .i64 0,.slice none 0 0,.slice none 0 0]) ?_ 2 _ rfl;(with_reducible repeat (first|refine Xj ?_ _|refine Xk ?_|refine Xi ?_ _));refine Yh (cs:=#[.int .i64 ((Xg l0 x6_1).f0),.int .i64 0,.int .i64 0,.int .i64 0,.slice none 0 0,.slice none 0 0]) ?_ 1 _ rfl;(with_reducible repeat (first|refine Xj ?_ _|refine Xk ?_|refine Xi ?_ _));refine Yh (cs:=#[.int .i64 0,.int .i64 0,.int .i64 0,.int .i64 0,.slice none 0 0,.slice none 0 0]) ?_ 0 _ rfl;(with_reducible repeat (first|refine Xj ?_ _|refine Xk ?_|refine Xi ?_ _));exact BK129.out⟩;have n1_:Xa (Below w.heap.size w ((((((w23.setCell ⟨gb129,0,none⟩ (.int .i64 ((Xg l0 x6_1).f0))).setCell ⟨gb129,1,none⟩ (.int .i64 ((Xg l0 x6_1).f1))).setCell ⟨gb129,2,none⟩ (.int .i64 ((Xg l0 x6_1).f2))).setCell ⟨gb129,3,none⟩ (.int .i64 ((Xg l0 x6_1).f3))).setCell ⟨gb129,4,none⟩ (.slice A128_4 ((Xg l0 x6_1).f4).length c128_4)).setCell ⟨gb129,5,none⟩ (.slice A128_5 ((Xg l0 x6_1).f5).length c128_5))):=⟨bl_ HB⟩
                 (try clear BK129)
                 (try clear HB)
                 generalize ((((((w23.setCell ⟨gb129,0,none⟩ (.int .i64 ((Xg l0 x6_1).f0))).setCell ⟨gb129,1,none⟩ (.int .i64 ((Xg l0 x6_1).f1))).setCell ⟨gb129,2,none⟩ (.int .i64 ((Xg l0 x6_1).f2))).setCell ⟨gb129,3,none⟩ (.int .i64 ((Xg l0 x6_1).f3))).setCell ⟨gb129,4,none⟩ (.slice A128_4 ((Xg l0 x6_1).f4).length c128_4)).setCell ⟨gb129,5,none⟩ (.slice A128_5 ((Xg l0 x6_1).f5).length c128_5))=w25 at n0_ n1_ ⊢
                 have BK129:=n0_;have HB:=n1_;clear n0_ n1_;have n0_:=Xa.mk (Xk BK129.out);have n1_:=Xa.mk (Zt HB.out);clear BK129;clear HB;have BK129:=n0_;have HB:=n1_;clear n0_ n1_;refine start_ (n:=33) (S:=fun w'=>w'.cell? ⟨gb129,0,none⟩=some (.int .i64 ((Xg l0 x6_1).f0))∧w'.cell? ⟨gb129,1,none⟩=some (.int .i64 ((Xg l0 x6_1).f1))∧w'.cell? ⟨gb129,2,none⟩=some (.int .i64 ((Xg l0 x6_1).f2))∧w'.cell? ⟨gb129,3,none⟩=some (.int .i64 ((Xg l0 x6_1).f3))∧w'.cell? ⟨gb129,4,none⟩=some (.slice A128_4 ((Xg l0 x6_1).f4).length c128_4)∧w'.cell? ⟨gb129,5,none⟩=some (.slice A128_5 ((Xg l0 x6_1).f5).length c128_5)) (ds:=[]) #[false,false,false,false,false,false,false,false,false,false,false,false,false,false,false,false,false,false,false,false,false,false,false,false,false,false,false,false,false,false,false,false,false] (by kernel_rfl) rfl rfl ⟨(Xd BK129.out 0).trans rfl,(Xd BK129.out 1).trans rfl,(Xd BK129.out 2).trans rfl,(Xd BK129.out 3).trans rfl,(Xd BK129.out 4).trans rfl,(Xd BK129.out 5).trans rfl⟩ (fun hHeld=>?_);refine with_tabW Xv.tab6 Xv.bits6 (fun HT_ HW_=>?_)
                 generalize w25.drew=w26 at BK129 HB hHeld ⊢
                 refine Yf (i:=0) (N:=some 22) (v:=?_) (a':=?_) #[true,false,false,false,false,false,false,false,false,false,false,false,false,false,false,false,false,false,false,false,false,false,false,false,false,false,false,false,false,false,false,false,false] rfl rfl (Ya HT_.out (by kernel_rfl)) (fun _ _ _ h=>h) (Or.inl ⟨by rfl,?_⟩) ?_ ?_
                 rotate_left
                 ·intro w';go_simp
                  with_reducible rfl
                 rotate_left
                 ·simp only [Act.put,List.setIfInBounds_toArray,List.set_cons_zero,List.set_cons_succ,Xu,Xt];rfl
                 refine Yf (i:=1) (N:=some 23) (v:=?_) (a':=?_) #[true,true,false,false,false,false,false,false,false,false,false,false,false,false,false,false,false,false,false,false,false,false,false,false,false,false,false,false,false,false,false,false,false] rfl rfl (Ya HT_.out (by kernel_rfl)) (fun _ _ _ h=>h) (Or.inl ⟨by rfl,?_⟩) ?_ ?_
                 rotate_left
                 ·intro w';go_simp
                  with_reducible rfl
                 rotate_left
                 ·simp only [Act.put,List.setIfInBounds_toArray,List.set_cons_zero,List.set_cons_succ,Xu,Xt];rfl
                 refine Yf (i:=6) (N:=some 28) (v:=?_) (a':=?_) #[true,true,false,false,false,false,true,false,false,false,false,false,false,false,false,false,false,false,false,false,false,false,false,false,false,false,false,false,false,false,false,false,false] rfl rfl (Ya HT_.out (by kernel_rfl)) (fun _ _ _ h=>h) (Or.inl ⟨by rfl,?_⟩) ?_ ?_
                 rotate_left
                 ·intro w';go_simp
                  with_reducible rfl
                 rotate_left
                 ·simp only [Act.put,List.setIfInBounds_toArray,List.set_cons_zero,List.set_cons_succ,Xu,Xt];rfl
                 refine Yf (i:=11) (N:=some 33) (v:=?_) (a':=?_) #[true,true,false,false,false,false,true,false,false,false,false,true,false,false,false,false,false,false,false,false,false,false,false,false,false,false,false,false,false,false,false,false,false] rfl rfl (Ya HT_.out (by kernel_rfl)) (fun _ _ _ h=>h) (Or.inl ⟨by rfl,?_⟩) ?_ ?_
                 rotate_left
                 ·intro w';go_simp
                  with_reducible rfl
                 rotate_left
                 ·simp only [Act.put,List.setIfInBounds_toArray,List.set_cons_zero,List.set_cons_succ,Xu,Xt];rfl
                 refine Yf (i:=16) (N:=some 38) (v:=?_) (a':=?_) #[true,true,false,false,false,false,true,false,false,false,false,true,false,false,false,false,true,false,false,false,false,false,false,false,false,false,false,false,false,false,false,false,false] rfl rfl (Ya HT_.out (by kernel_rfl)) (fun _ _ _ h=>h) (Or.inl ⟨by rfl,?_⟩) ?_ ?_
                 rotate_left
                 ·intro w';go_simp
                  with_reducible rfl
                 rotate_left
                 ·simp only [Act.put,List.setIfInBounds_toArray,List.set_cons_zero,List.set_cons_succ,Xu,Xt];rfl
                 refine Yf (i:=20) (N:=some 42) (v:=?_) (a':=?_) #[true,true,false,false,false,false,true,false,false,false,false,true,false,false,false,false,true,false,false,false,true,false,false,false,false,false,false,false,false,false,false,false,false] rfl rfl (Ya HT_.out (by kernel_rfl)) (fun _ _ _ h=>h) (Or.inl ⟨by rfl,?_⟩) ?_ ?_
                 rotate_left
                 ·intro w';go_simp
                  with_reducible rfl
                 rotate_left
                 ·simp only [Act.put,List.setIfInBounds_toArray,List.set_cons_zero,List.set_cons_succ,Xu,Xt];rfl
                 refine Yf (i:=22) (N:=some 44) (v:=?_) (a':=?_) #[true,true,false,false,false,false,true,false,false,false,false,true,false,false,false,false,true,false,false,false,true,false,true,false,false,false,false,false,false,false,false,false,false] rfl rfl (Ya HT_.out (by kernel_rfl)) (fun _ _ _ h=>h) (Or.inl ⟨by rfl,?_⟩) ?_ ?_
                 rotate_left
                 ·intro w';go_simp
                  with_reducible rfl
                 rotate_left
                 ·simp only [Act.put,List.setIfInBounds_toArray,List.set_cons_zero,List.set_cons_succ,Xu,Xt];rfl
                 refine Yf (i:=23) (N:=some 45) (v:=?_) (a':=?_) #[true,true,false,false,false,false,true,false,false,false,false,true,false,false,false,false,true,false,false,false,true,false,true,true,false,false,false,false,false,false,false,false,false] rfl rfl (Ya HT_.out (by kernel_rfl)) (fun _ _ _ h=>h) (Or.inl ⟨by rfl,?_⟩) ?_ ?_
                 rotate_left
                 ·intro w';go_simp
                  with_reducible rfl
                 rotate_left
                 ·simp only [Act.put,List.setIfInBounds_toArray,List.set_cons_zero,List.set_cons_succ,Xu,Xt];rfl
                 refine Yf (i:=26) (N:=some 48) (v:=?_) (a':=?_) #[true,true,false,false,false,false,true,false,false,false,false,true,false,false,false,false,true,false,false,false,true,false,true,true,false,false,true,false,false,false,false,false,false] rfl rfl (Ya HT_.out (by kernel_rfl)) (fun _ _ _ h=>h) (Or.inl ⟨by rfl,?_⟩) ?_ ?_
                 rotate_left
                 ·intro w';go_simp
                  with_reducible rfl
                 rotate_left
                 ·simp only [Act.put,List.setIfInBounds_toArray,List.set_cons_zero,List.set_cons_succ,Xu,Xt];rfl
                 refine Yf (i:=28) (N:=some 50) (v:=?_) (a':=?_) #[true,true,false,false,false,false,true,false,false,false,false,true,false,false,false,false,true,false,false,false,true,false,true,true,false,false,true,false,true,false,false,false,false] rfl rfl (Ya HT_.out (by kernel_rfl)) (fun _ _ _ h=>h) (Or.inl ⟨by rfl,?_⟩) ?_ ?_
                 rotate_left
                 ·intro w';go_simp
                  with_reducible rfl
                 rotate_left
                 ·simp only [Act.put,List.setIfInBounds_toArray,List.set_cons_zero,List.set_cons_succ,Xu,Xt];rfl
                 refine Yf (i:=29) (N:=some 51) (v:=?_) (a':=?_) #[true,true,false,false,false,false,true,false,false,false,false,true,false,false,false,false,true,false,false,false,true,false,true,true,false,false,true,false,true,true,false,false,false] rfl rfl (Ya HT_.out (by kernel_rfl)) (fun _ _ _ h=>h) (Or.inl ⟨by rfl,?_⟩) ?_ ?_
                 rotate_left
                 ·intro w';go_simp
                  with_reducible rfl
                 rotate_left
                 ·simp only [Act.put,List.setIfInBounds_toArray,List.set_cons_zero,List.set_cons_succ,Xu,Xt];rfl
                 refine Zw (i:=2) (N:=some 24) (v:=?_) (a':=?_) #[true,true,true,false,false,false,true,false,false,false,false,true,false,false,false,false,true,false,false,false,true,false,true,true,false,false,true,false,true,true,false,false,false] rfl rfl (Zb HT_.out HW_.out (by kernel_rfl)) (fun _ _ _ h=>h) (Or.inl ⟨by rfl,?_⟩) hHeld ?_ ?_
                 rotate_left
                 ·rintro w' ⟨s0,s1,s2,s3,s4,s5⟩
                  go_simp
                  with_reducible rfl
                 rotate_left
                 ·simp only [Act.put,List.setIfInBounds_toArray,List.set_cons_zero,List.set_cons_succ,Xu,Xt];rfl
                 refine Zw (i:=7) (N:=some 29) (v:=?_) (a':=?_) #[true,true,true,false,false,false,true,true,false,false,false,true,false,false,false,false,true,false,false,false,true,false,true,true,false,false,true,false,true,true,false,false,false] rfl rfl (Zb HT_.out HW_.out (by kernel_rfl)) (fun _ _ _ h=>h) (Or.inl ⟨by rfl,?_⟩) hHeld ?_ ?_
                 rotate_left
                 ·rintro w' ⟨s0,s1,s2,s3,s4,s5⟩
                  go_simp
                  with_reducible rfl
                 rotate_left
                 ·simp only [Act.put,List.setIfInBounds_toArray,List.set_cons_zero,List.set_cons_succ,Xu,Xt];rfl
                 refine Zw (i:=12) (N:=some 34) (v:=?_) (a':=?_) #[true,true,true,false,false,false,true,true,false,false,false,true,true,false,false,false,true,false,false,false,true,false,true,true,false,false,true,false,true,true,false,false,false] rfl rfl (Zb HT_.out HW_.out (by kernel_rfl)) (fun _ _ _ h=>h) (Or.inl ⟨by rfl,?_⟩) hHeld ?_ ?_
                 rotate_left
                 ·rintro w' ⟨s0,s1,s2,s3,s4,s5⟩
                  go_simp
                  with_reducible rfl
                 rotate_left
                 ·simp only [Act.put,List.setIfInBounds_toArray,List.set_cons_zero,List.set_cons_succ,Xu,Xt];rfl
                 refine Zw (i:=17) (N:=some 39) (v:=?_) (a':=?_) #[true,true,true,false,false,false,true,true,false,false,false,true,true,false,false,false,true,true,false,false,true,false,true,true,false,false,true,false,true,true,false,false,false] rfl rfl (Zb HT_.out HW_.out (by kernel_rfl)) (fun _ _ _ h=>h) (Or.inl ⟨by rfl,?_⟩) hHeld ?_ ?_
                 rotate_left
                 ·rintro w' ⟨s0,s1,s2,s3,s4,s5⟩
                  go_simp
                  with_reducible rfl
                 rotate_left
                 ·simp only [Act.put,List.setIfInBounds_toArray,List.set_cons_zero,List.set_cons_succ,Xu,Xt];rfl
                 refine Zw (i:=21) (N:=some 43) (v:=?_) (a':=?_) #[true,true,true,false,false,false,true,true,false,false,false,true,true,false,false,false,true,true,false,false,true,true,true,true,false,false,true,false,true,true,false,false,false] rfl rfl (Zb HT_.out HW_.out (by kernel_rfl)) (fun _ _ _ h=>h) (Or.inl ⟨by rfl,?_⟩) hHeld ?_ ?_
                 rotate_left
                 ·rintro w' ⟨s0,s1,s2,s3,s4,s5⟩
                  go_simp
                  with_reducible rfl
                 rotate_left
                 ·simp only [Act.put,List.setIfInBounds_toArray,List.set_cons_zero,List.set_cons_succ,Xu,Xt];rfl
                 refine Zw (i:=27) (N:=some 49) (v:=?_) (a':=?_) #[true,true,true,false,false,false,true,true,false,false,false,true,true,false,false,false,true,true,false,false,true,true,true,true,false,false,true,true,true,true,false,false,false] rfl rfl (Zb HT_.out HW_.out (by kernel_rfl)) (fun _ _ _ h=>h) (Or.inl ⟨by rfl,?_⟩) hHeld ?_ ?_
                 rotate_left
                 ·rintro w' ⟨s0,s1,s2,s3,s4,s5⟩
                  go_simp
                  with_reducible rfl
                 rotate_left
                 ·simp only [Act.put,List.setIfInBounds_toArray,List.set_cons_zero,List.set_cons_succ,Xu,Xt];rfl
                 refine one_ (i:=3) (N:=some 25) #[true,true,true,true,false,false,true,true,false,false,false,true,true,false,false,false,true,true,false,false,true,true,true,true,false,false,true,true,true,true,false,false,false] rfl rfl (Ue HT_.out (by kernel_rfl)) (by decide) (fun K hK=>?_)
                 refine goes_ Tryd.func26 (by kernel_rfl) rfl #[.int .i64 ((Xg l0 x6_1).f0)] (by rfl) rfl rfl ga_ ?_
                 with_reducible refine (Yg.calls kj2 ((Xg l0 x6_1).f0) t130 _ A8.out).mono ?_
                 rintro e w27 ⟨rfl,hb⟩
                 refine ⟨_,rfl,?_⟩
                 have n0_:=Xa.mk (Xh (g:=gb129) (o:=.cells #[.int .i64 ((Xg l0 x6_1).f0),.int .i64 ((Xg l0 x6_1).f1),.int .i64 ((Xg l0 x6_1).f2),.int .i64 ((Xg l0 x6_1).f3),.slice A128_4 ((Xg l0 x6_1).f4).length c128_4,.slice A128_5 ((Xg l0 x6_1).f5).length c128_5] 63 (0,0)) (ba_ BK129) hb);have n1_:=Xa.mk (Xc (bl_ HB) hb);clear BK129;clear HB;have BK129:=n0_;have HB:=n1_;clear n0_ n1_
                 (try clear hb)
                 (try clear hb2)
                 (try clear hk)
                 (try clear hi)
                 refine hK.out _ _ ⟨(Xd BK129.out 0).trans rfl,(Xd BK129.out 1).trans rfl,(Xd BK129.out 2).trans rfl,(Xd BK129.out 3).trans rfl,(Xd BK129.out 4).trans rfl,(Xd BK129.out 5).trans rfl⟩ (fun hHeld=>?_)
                 clear hK K;refine norm_ (a':=?_) ?_ ?_
                 rotate_left
                 ·show Act.put _ (some 25) _=_
                  simp only [Act.put,List.setIfInBounds_toArray,List.set_cons_zero,List.set_cons_succ,Xu,Xt];rfl
                 refine Yf (i:=4) (N:=some 26) (v:=?_) (a':=?_) #[true,true,true,true,true,false,true,true,false,false,false,true,true,false,false,false,true,true,false,false,true,true,true,true,false,false,true,true,true,true,false,false,false] rfl rfl (Ya HT_.out (by kernel_rfl)) (fun _ _ _ h=>h) (Or.inl ⟨by rfl,?_⟩) ?_ ?_
                 rotate_left
                 ·intro w';go_simp
                  with_reducible rfl
                 rotate_left
                 ·simp only [Act.put,List.setIfInBounds_toArray,List.set_cons_zero,List.set_cons_succ,Xu,Xt];rfl
                 refine Yf (i:=5) (N:=some 27) (v:=?_) (a':=?_) #[true,true,true,true,true,true,true,true,false,false,false,true,true,false,false,false,true,true,false,false,true,true,true,true,false,false,true,true,true,true,false,false,false] rfl rfl (Ya HT_.out (by kernel_rfl)) (fun _ _ _ h=>h) (Or.inl ⟨by rfl,?_⟩) ?_ ?_
                 rotate_left
                 ·intro w';go_simp
                  with_reducible rfl
                 rotate_left
                 ·simp only [Act.put,List.setIfInBounds_toArray,List.set_cons_zero,List.set_cons_succ,Xu,Xt];rfl
                 refine one_ (i:=8) (N:=some 30) #[true,true,true,true,true,true,true,true,true,false,false,true,true,false,false,false,true,true,false,false,true,true,true,true,false,false,true,true,true,true,false,false,false] rfl rfl (Ue HT_.out (by kernel_rfl)) (by decide) (fun K hK=>?_)
                 refine goes_ Tryd.func26 (by kernel_rfl) rfl #[.int .i64 ((Xg l0 x6_1).f1)] (by rfl) rfl rfl ga_ ?_
                 with_reducible refine (Yg.calls kj2 ((Xg l0 x6_1).f1) t131 _ A11.out).mono ?_
                 rintro e w28 ⟨rfl,hb⟩
                 refine ⟨_,rfl,?_⟩
                 have n0_:=Xa.mk (Xh (g:=gb129) (o:=.cells #[.int .i64 ((Xg l0 x6_1).f0),.int .i64 ((Xg l0 x6_1).f1),.int .i64 ((Xg l0 x6_1).f2),.int .i64 ((Xg l0 x6_1).f3),.slice A128_4 ((Xg l0 x6_1).f4).length c128_4,.slice A128_5 ((Xg l0 x6_1).f5).length c128_5] 63 (0,0)) (ba_ BK129) hb);have n1_:=Xa.mk (Xc (bl_ HB) hb);clear BK129;clear HB;have BK129:=n0_;have HB:=n1_;clear n0_ n1_
                 (try clear hb)
                 (try clear hb2)
                 (try clear hk)
                 (try clear hi)
                 refine hK.out _ _ ⟨(Xd BK129.out 0).trans rfl,(Xd BK129.out 1).trans rfl,(Xd BK129.out 2).trans rfl,(Xd BK129.out 3).trans rfl,(Xd BK129.out 4).trans rfl,(Xd BK129.out 5).trans rfl⟩ (fun hHeld=>?_)
                 clear hK K;refine norm_ (a':=?_) ?_ ?_
                 rotate_left
                 ·show Act.put _ (some 30) _=_
                  simp only [Act.put,List.setIfInBounds_toArray,List.set_cons_zero,List.set_cons_succ,Xu,Xt];rfl
                 refine Yf (i:=9) (N:=some 31) (v:=?_) (a':=?_) #[true,true,true,true,true,true,true,true,true,true,false,true,true,false,false,false,true,true,false,false,true,true,true,true,false,false,true,true,true,true,false,false,false] rfl rfl (Ya HT_.out (by kernel_rfl)) (fun _ _ _ h=>h) (Or.inl ⟨by rfl,?_⟩) ?_ ?_
                 rotate_left
                 ·intro w';go_simp
                  with_reducible rfl
                 rotate_left
                 ·simp only [Act.put,List.setIfInBounds_toArray,List.set_cons_zero,List.set_cons_succ,Xu,Xt];rfl
                 refine Yf (i:=10) (N:=some 32) (v:=?_) (a':=?_) #[true,true,true,true,true,true,true,true,true,true,true,true,true,false,false,false,true,true,false,false,true,true,true,true,false,false,true,true,true,true,false,false,false] rfl rfl (Ya HT_.out (by kernel_rfl)) (fun _ _ _ h=>h) (Or.inl ⟨by rfl,?_⟩) ?_ ?_
                 rotate_left
                 ·intro w';go_simp
                  with_reducible rfl
                 rotate_left
                 ·simp only [Act.put,List.setIfInBounds_toArray,List.set_cons_zero,List.set_cons_succ,Xu,Xt];rfl
                 refine one_ (i:=13) (N:=some 35) #[true,true,true,true,true,true,true,true,true,true,true,true,true,true,false,false,true,true,false,false,true,true,true,true,false,false,true,true,true,true,false,false,false] rfl rfl (Ue HT_.out (by kernel_rfl)) (by decide) (fun K hK=>?_)
                 refine goes_ Tryd.func26 (by kernel_rfl) rfl #[.int .i64 ((Xg l0 x6_1).f2)] (by rfl) rfl rfl ga_ ?_
                 with_reducible refine (Yg.calls kj2 ((Xg l0 x6_1).f2) t132 _ A14.out).mono ?_
                 rintro e w29 ⟨rfl,hb⟩
                 refine ⟨_,rfl,?_⟩
                 have n0_:=Xa.mk (Xh (g:=gb129) (o:=.cells #[.int .i64 ((Xg l0 x6_1).f0),.int .i64 ((Xg l0 x6_1).f1),.int .i64 ((Xg l0 x6_1).f2),.int .i64 ((Xg l0 x6_1).f3),.slice A128_4 ((Xg l0 x6_1).f4).length c128_4,.slice A128_5 ((Xg l0 x6_1).f5).length c128_5] 63 (0,0)) (ba_ BK129) hb);have n1_:=Xa.mk (Xc (bl_ HB) hb);clear BK129;clear HB;have BK129:=n0_;have HB:=n1_;clear n0_ n1_
                 (try clear hb)
                 (try clear hb2)
                 (try clear hk)
                 (try clear hi)
                 refine hK.out _ _ ⟨(Xd BK129.out 0).trans rfl,(Xd BK129.out 1).trans rfl,(Xd BK129.out 2).trans rfl,(Xd BK129.out 3).trans rfl,(Xd BK129.out 4).trans rfl,(Xd BK129.out 5).trans rfl⟩ (fun hHeld=>?_)
                 clear hK K;refine norm_ (a':=?_) ?_ ?_
                 rotate_left
                 ·show Act.put _ (some 35) _=_
                  simp only [Act.put,List.setIfInBounds_toArray,List.set_cons_zero,List.set_cons_succ,Xu,Xt];rfl
                 refine Yf (i:=14) (N:=some 36) (v:=?_) (a':=?_) #[true,true,true,true,true,true,true,true,true,true,true,true,true,true,true,false,true,true,false,false,true,true,true,true,false,false,true,true,true,true,false,false,false] rfl rfl (Ya HT_.out (by kernel_rfl)) (fun _ _ _ h=>h) (Or.inl ⟨by rfl,?_⟩) ?_ ?_
                 rotate_left
                 ·intro w';go_simp
                  with_reducible rfl
                 rotate_left
                 ·simp only [Act.put,List.setIfInBounds_toArray,List.set_cons_zero,List.set_cons_succ,Xu,Xt];rfl
                 refine Yf (i:=15) (N:=some 37) (v:=?_) (a':=?_) #[true,true,true,true,true,true,true,true,true,true,true,true,true,true,true,true,true,true,false,false,true,true,true,true,false,false,true,true,true,true,false,false,false] rfl rfl (Ya HT_.out (by kernel_rfl)) (fun _ _ _ h=>h) (Or.inl ⟨by rfl,?_⟩) ?_ ?_
                 rotate_left
                 ·intro w';go_simp
                  with_reducible rfl
                 rotate_left
                 ·simp only [Act.put,List.setIfInBounds_toArray,List.set_cons_zero,List.set_cons_succ,Xu,Xt];rfl
                 refine one_ (i:=18) (N:=some 40) #[true,true,true,true,true,true,true,true,true,true,true,true,true,true,true,true,true,true,true,false,true,true,true,true,false,false,true,true,true,true,false,false,false] rfl rfl (Ue HT_.out (by kernel_rfl)) (by decide) (fun K hK=>?_)
                 refine goes_ Tryd.func26 (by kernel_rfl) rfl #[.int .i64 ((Xg l0 x6_1).f3)] (by rfl) rfl rfl ga_ ?_
                 with_reducible refine (Yg.calls kj2 ((Xg l0 x6_1).f3) t133 _ A17.out).mono ?_
                 rintro e w30 ⟨rfl,hb⟩
                 refine ⟨_,rfl,?_⟩
                 have n0_:=Xa.mk (Xh (g:=gb129) (o:=.cells #[.int .i64 ((Xg l0 x6_1).f0),.int .i64 ((Xg l0 x6_1).f1),.int .i64 ((Xg l0 x6_1).f2),.int .i64 ((Xg l0 x6_1).f3),.slice A128_4 ((Xg l0 x6_1).f4).length c128_4,.slice A128_5 ((Xg l0 x6_1).f5).length c128_5] 63 (0,0)) (ba_ BK129) hb);have n1_:=Xa.mk (Xc (bl_ HB) hb);clear BK129;clear HB;have BK129:=n0_;have HB:=n1_;clear n0_ n1_
                 (try clear hb)
                 (try clear hb2)
                 (try clear hk)
                 (try clear hi)
                 refine hK.out _ _ ⟨(Xd BK129.out 0).trans rfl,(Xd BK129.out 1).trans rfl,(Xd BK129.out 2).trans rfl,(Xd BK129.out 3).trans rfl,(Xd BK129.out 4).trans rfl,(Xd BK129.out 5).trans rfl⟩ (fun hHeld=>?_)
                 clear hK K;refine norm_ (a':=?_) ?_ ?_
                 rotate_left
                 ·show Act.put _ (some 40) _=_
                  simp only [Act.put,List.setIfInBounds_toArray,List.set_cons_zero,List.set_cons_succ,Xu,Xt];rfl
                 refine Yf (i:=19) (N:=some 41) (v:=?_) (a':=?_) #[true,true,true,true,true,true,true,true,true,true,true,true,true,true,true,true,true,true,true,true,true,true,true,true,false,false,true,true,true,true,false,false,false] rfl rfl (Ya HT_.out (by kernel_rfl)) (fun _ _ _ h=>h) (Or.inl ⟨by rfl,?_⟩) ?_ ?_
                 rotate_left
                 ·intro w';go_simp
                  with_reducible rfl
                 rotate_left
                 ·simp only [Act.put,List.setIfInBounds_toArray,List.set_cons_zero,List.set_cons_succ,Xu,Xt];rfl
                 refine one_ (i:=24) (N:=some 46) #[true,true,true,true,true,true,true,true,true,true,true,true,true,true,true,true,true,true,true,true,true,true,true,true,true,false,true,true,true,true,false,false,false] rfl rfl (Ue HT_.out (by kernel_rfl)) (by decide) (fun K hK=>?_)
                 refine goes_ Tryd.func14 (by kernel_rfl) rfl #[.slice A128_4 ((Xg l0 x6_1).f4).length c128_4,.int .i64 (wrap64 (a1 - 1))] (by rfl) rfl rfl ga_ ?_
                 with_reducible refine (ih kj2 (by have:=HK1.out;have:=HJ2.out;omega) _ _ ((Xg l0 x6_1).f4) (wrap64 (a1 - 1)) t134 _ ?side1 ?side2 A19.out).mono ?_
                 (case side1=>repeat (first|exact (Kd.Xl HR128_4.out HB.out)|(with_reducible refine Kd.Xe ?_ _)|(with_reducible refine Kd.Xf ?_ _)|(with_reducible refine Kd.Xn ?_)))
                 (case side2=>exact HC128_4.out)
                 rintro e w31 ⟨rfl,hb⟩
                 refine ⟨_,rfl,?_⟩
                 have n0_:=Xa.mk (Xh (g:=gb129) (o:=.cells #[.int .i64 ((Xg l0 x6_1).f0),.int .i64 ((Xg l0 x6_1).f1),.int .i64 ((Xg l0 x6_1).f2),.int .i64 ((Xg l0 x6_1).f3),.slice A128_4 ((Xg l0 x6_1).f4).length c128_4,.slice A128_5 ((Xg l0 x6_1).f5).length c128_5] 63 (0,0)) (ba_ BK129) hb);have n1_:=Xa.mk (Xc (bl_ HB) hb);clear BK129;clear HB;have BK129:=n0_;have HB:=n1_;clear n0_ n1_
                 (try clear hb)
                 (try clear hb2)
                 (try clear hk)
                 (try clear hi)
                 refine hK.out _ _ ⟨(Xd BK129.out 0).trans rfl,(Xd BK129.out 1).trans rfl,(Xd BK129.out 2).trans rfl,(Xd BK129.out 3).trans rfl,(Xd BK129.out 4).trans rfl,(Xd BK129.out 5).trans rfl⟩ (fun hHeld=>?_)
                 clear hK K;refine norm_ (a':=?_) ?_ ?_
                 rotate_left
                 ·show Act.put _ (some 46) _=_
                  simp only [Act.put,List.setIfInBounds_toArray,List.set_cons_zero,List.set_cons_succ,Xu,Xt];rfl
                 refine Yf (i:=25) (N:=some 47) (v:=?_) (a':=?_) #[true,true,true,true,true,true,true,true,true,true,true,true,true,true,true,true,true,true,true,true,true,true,true,true,true,true,true,true,true,true,false,false,false] rfl rfl (Ya HT_.out (by kernel_rfl)) (fun _ _ _ h=>h) (Or.inl ⟨by rfl,?_⟩) ?_ ?_
                 rotate_left
                 ·intro w';go_simp
                  with_reducible rfl
                 rotate_left
                 ·simp only [Act.put,List.setIfInBounds_toArray,List.set_cons_zero,List.set_cons_succ,Xu,Xt];rfl
                 refine one_ (i:=30) (N:=some 52) #[true,true,true,true,true,true,true,true,true,true,true,true,true,true,true,true,true,true,true,true,true,true,true,true,true,true,true,true,true,true,true,false,false] rfl rfl (Ue HT_.out (by kernel_rfl)) (by decide) (fun K hK=>?_)
                 refine goes_ Tryd.func14 (by kernel_rfl) rfl #[.slice A128_5 ((Xg l0 x6_1).f5).length c128_5,.int .i64 (wrap64 (a1 - 1))] (by rfl) rfl rfl ga_ ?_
                 with_reducible refine (ih kj2 (by have:=HK1.out;have:=HJ2.out;omega) _ _ ((Xg l0 x6_1).f5) (wrap64 (a1 - 1)) t135 _ ?side1 ?side2 A21.out).mono ?_
                 (case side1=>repeat (first|exact (Kd.Xl HR128_5.out HB.out)|(with_reducible refine Kd.Xe ?_ _)|(with_reducible refine Kd.Xf ?_ _)|(with_reducible refine Kd.Xn ?_)))
                 (case side2=>exact HC128_5.out)
                 rintro e w32 ⟨rfl,hb⟩
                 refine ⟨_,rfl,?_⟩
                 have n0_:=Xa.mk (Xh (g:=gb129) (o:=.cells #[.int .i64 ((Xg l0 x6_1).f0),.int .i64 ((Xg l0 x6_1).f1),.int .i64 ((Xg l0 x6_1).f2),.int .i64 ((Xg l0 x6_1).f3),.slice A128_4 ((Xg l0 x6_1).f4).length c128_4,.slice A128_5 ((Xg l0 x6_1).f5).length c128_5] 63 (0,0)) (ba_ BK129) hb);have n1_:=Xa.mk (Xc (bl_ HB) hb);clear BK129;clear HB;have BK129:=n0_;have HB:=n1_;clear n0_ n1_
                 (try clear hb)
                 (try clear hb2)
                 (try clear hk)
                 (try clear hi)
                 refine hK.out _ _ ⟨(Xd BK129.out 0).trans rfl,(Xd BK129.out 1).trans rfl,(Xd BK129.out 2).trans rfl,(Xd BK129.out 3).trans rfl,(Xd BK129.out 4).trans rfl,(Xd BK129.out 5).trans rfl⟩ (fun hHeld=>?_)
                 clear hK K;refine norm_ (a':=?_) ?_ ?_
                 rotate_left
                 ·show Act.put _ (some 52) _=_
                  simp only [Act.put,List.setIfInBounds_toArray,List.set_cons_zero,List.set_cons_succ,Xu,Xt];rfl
                 refine Yf (i:=31) (N:=some 53) (v:=?_) (a':=?_) #[true,true,true,true,true,true,true,true,true,true,true,true,true,true,true,true,true,true,true,true,true,true,true,true,true,true,true,true,true,true,true,true,false] rfl rfl (Ya HT_.out (by kernel_rfl)) (fun _ _ _ h=>h) (Or.inl ⟨by rfl,?_⟩) ?_ ?_
                 rotate_left
                 ·intro w';go_simp
                  with_reducible rfl
                 rotate_left
                 ·simp only [Act.put,List.setIfInBounds_toArray,List.set_cons_zero,List.set_cons_succ,Xu,Xt];rfl
                 refine Yf (i:=32) (N:=some 5) (v:=?_) (a':=?_) #[true,true,true,true,true,true,true,true,true,true,true,true,true,true,true,true,true,true,true,true,true,true,true,true,true,true,true,true,true,true,true,true,true] rfl rfl (Ya HT_.out (by kernel_rfl)) (fun _ _ _ h=>h) (Or.inl ⟨by rfl,?_⟩) ?_ ?_
                 rotate_left
                 ·intro w';go_simp
                  with_reducible rfl
                 rotate_left
                 ·simp only [Act.put,List.setIfInBounds_toArray,List.set_cons_zero,List.set_cons_succ,Xu,Xt];rfl
                 refine done_ (done_of HT_.out (by kernel_rfl)) ?_
                 try go_wp2
                 go_roundg kj2
                 case measure=>have:=HK1.out;have:=HJ2.out;omega
                 case rel=>exact ⟨(((((((((x5_1 ++ t130) ++ (⟨#[44]⟩:ByteArray)) ++ t131) ++ (⟨#[44]⟩:ByteArray)) ++ t132) ++ (⟨#[44]⟩:ByteArray)) ++ t133) ++ t134) ++ t135),(wrap64 (x6_1+1)),(by first|rfl|(simp;done)|(simp [*];done)),(by first|rfl|(simp;done)|(simp [*];done)),H',⟨by have:=HK1.out;have:=HJ2.out;omega⟩,⟨bl_ HB⟩⟩
                ·rw [if_neg c22] at H;exact absurd H (by simp)
               ·rw [if_neg c20] at H;exact absurd H (by simp)
              ·rw [if_neg c18] at H;exact absurd H (by simp)
             ·rw [if_neg c16] at H;exact absurd H (by simp)
            ·rw [if_neg c15] at H;exact absurd H (by simp)
           ·rw [if_neg c13] at H;exact absurd H (by simp)
          ·rw [if_neg c12] at H;exact absurd H (by simp)
         ·rw [if_neg c10] at H;exact absurd H (by simp)
        ·rw [if_neg c9] at H;exact absurd H (by simp)
       ·rw [if_neg c7] at H;exact absurd H (by simp)
      ·rw [if_neg c6] at H;exact absurd H (by simp)
     ·replace c5:=Bool.eq_false_iff.mpr c5;subst c5
      have H1:(if x5_1.size+1≤9223372036854775807 then (some (x5_1 ++ (⟨#[41]⟩:ByteArray))) else (none))=some r:=by rw [if_neg (show ¬ (false=true) by decide)] at H;exact H
      clear H;have H:=H1;clear H1;by_cases c33:x5_1.size+1≤9223372036854775807
      ·rw [if_pos c33] at H;have c33b0:=eq_true c33;have c33b1:decide (x5_1.size+1≤9223372036854775807)=true:=decide_eq_true c33
       try have c33b2:(9223372036854775807<x5_1.size+1)=False:=eq_false (Nat.not_lt.2 c33)
       obtain rfl:=Option.some.inj H;go_wp2
       go_ret
       exact ⟨rf_,bl_ HB⟩
      ·rw [if_neg c33] at H;exact absurd H (by simp)
end Go.Proofs.YtpcfebhpapdkcaaDoor.GWorld
