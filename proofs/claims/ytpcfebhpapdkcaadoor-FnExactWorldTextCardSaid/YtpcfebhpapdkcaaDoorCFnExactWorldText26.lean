import Derived.Test.YtpcfebhpapdkcaaDoorCFnExactWorldText22
import Derived.Test.YtpcfebhpapdkcaaDoorCFnExactWorldText24
import Derived.Test.YtpcfebhpapdkcaaDoorCFnExactWorldText25
namespace Go.Proofs.YtpcfebhpapdkcaaDoor.GWorld
open Go.RowKit Go.Proofs.YtpcfebhpapdkcaaDoorW.PrintWords Go.Proofs.YtpcfebhpapdkcaaDoorW.PrintLast Go.Proofs.YtpcfebhpapdkcaaDoorW.PrintMore
attribute [local go_sem] max2_int min2_int max_two min_two Uc Ud max_four min_four
set_option linter.unusedVariables false
set_option linter.unusedSimpArgs false
mutual
def Xp.l0:Nat→ByteArray→Int→List (S43)→List Int→List Int→List (List Int)→List (S47)→Option (ByteArray)
 |0,_,_,_,_,_,_,_=>none
 |k+1,x3,x4,x137000,x137001,x137002,x137003,x137004=>if x4<(x137000.length:Int) then (if 0≤x4 then ((Yr.f k (⟨#[112,114,111,99]⟩:ByteArray) (([(Xm x137000 x4).f2,(Xm x137000 x4).f3,(Xm x137000 x4).f4]:List Int))).bind fun t142=>(if x3.size+t142.size≤9223372036854775807 then ((Yr.f k (⟨#[114,101,103,115]⟩:ByteArray) ((Xm x137000 x4).f0)).bind fun t143=>(if (x3 ++ t142).size+t143.size≤9223372036854775807 then ((Xv.f k ((Xm x137000 x4).f1) 6).bind fun t144=>(if ((x3 ++ t142) ++ t143).size+t144.size≤9223372036854775807 then (if (((x3 ++ t142) ++ t143) ++ t144).size+1≤9223372036854775807 then (Xp.l0 k ((((x3 ++ t142) ++ t143) ++ t144) ++ (⟨#[10]⟩:ByteArray)) (wrap64 (x4+1)) x137000 x137001 x137002 x137003 x137004) else (none)) else (none))) else (none))) else (none))) else (none)) else ((Yr.f k (⟨#[99,101,108,108,115]⟩:ByteArray) x137001).bind fun t145=>(if x3.size+t145.size≤9223372036854775807 then ((Yr.f k (⟨#[114,111,111,109,115]⟩:ByteArray) x137002).bind fun t146=>(if (x3 ++ t145).size+t146.size≤9223372036854775807 then (Xp.l1 k ((x3 ++ t145) ++ t146) 0 x137000 x137001 x137002 x137003 x137004) else (none))) else (none)))
def Xp.l1:Nat→ByteArray→Int→List (S43)→List Int→List Int→List (List Int)→List (S47)→Option (ByteArray)
 |0,_,_,_,_,_,_,_=>none
 |k+1,x3,x6,x137000,x137001,x137002,x137003,x137004=>if x6<(x137003.length:Int) then (if 0≤x6 then ((Yr.f k (⟨#[115,105,103,110]⟩:ByteArray) (rd_L2 x137003 x6)).bind fun t148=>(if x3.size+t148.size≤9223372036854775807 then (Xp.l1 k (x3 ++ t148) (wrap64 (x6+1)) x137000 x137001 x137002 x137003 x137004) else (none))) else (none)) else (Xp.l2 k x3 0 x137000 x137001 x137002 x137003 x137004)
def Xp.l2:Nat→ByteArray→Int→List (S43)→List Int→List Int→List (List Int)→List (S47)→Option (ByteArray)
 |0,_,_,_,_,_,_,_=>none
 |k+1,x3,x7,x137000,x137001,x137002,x137003,x137004=>if x7<(x137004.length:Int) then (if 0≤x7 then ((Yr.f k (⟨#[115,97,105,100]⟩:ByteArray) (([(Yx x137004 x7).f0,(Yx x137004 x7).f1]:List Int))).bind fun t154=>(if x3.size+t154.size≤9223372036854775807 then (Xp.l2 k (x3 ++ t154) (wrap64 (x7+1)) x137000 x137001 x137002 x137003 x137004) else (none))) else (none)) else (some x3)
end
def Xp.f (k:Nat) (l0_0:List (S43)) (l0_1:List Int) (l0_2:List Int) (l0_3:List (List Int)) (l0_4:List (S47)):Option (ByteArray):=Xp.l0 k (⟨#[]⟩:ByteArray) 0 l0_0 l0_1 l0_2 l0_3 l0_4
def Xp.T6:Bool × List (List Nat × List Nat):=(true,[([],[]),([],[]),([1],[1]),([],[]),([3],[3]),([],[]),([5],[5]),([2,4,6],[2,4,6]),([7],[7]),([0,8],[0,8]),([],[]),([10],[10]),([11,8],[11]),([9,12],[9,12]),([],[]),([14],[14]),([15,12],[15]),([13,16],[13,16]),([17],[17]),([18,16,0,1,2,3,4,5,6,7,8,9,10,11,12,13,14,15,16,17,18],[0,18])])
def Xp.B6:List Nat:=[0,0,2,0,8,0,32,126,254,511,0,1024,3582,8191,0,16384,56830,131071,262143,524287]
theorem Xp.tab6:rtab .any (opsOf Tryd.f5 6)=Xp.T6:=by kernel_rfl
theorem Xp.bits6:waitsOk Xp.T6.2 Xp.B6=true:=by kernel_rfl
def Xp.T7:Bool × List (List Nat × List Nat):=(true,[([],[]),([],[]),([1],[1]),([2],[2]),([0,3],[0,3]),([],[]),([5],[5]),([6,3],[6]),([4,7],[4,7]),([8,7,0,1,2,3,4,5,6,7,8],[0,8])])
def Xp.B7:List Nat:=[0,0,2,6,15,0,32,110,255,511]
theorem Xp.tab7:rtab .any (opsOf Tryd.f5 7)=Xp.T7:=by kernel_rfl
theorem Xp.bits7:waitsOk Xp.T7.2 Xp.B7=true:=by kernel_rfl
def Xp.T15:Bool × List (List Nat × List Nat):=(true,[([],[]),([],[]),([1],[1]),([],[]),([2,3],[2,3]),([4],[4]),([5],[5]),([],[]),([7],[7]),([],[]),([8,9],[8,9]),([10],[10]),([11],[11]),([6,12],[6,12]),([13],[13]),([0,14],[0,14]),([15,14,0,1,2,3,4,5,6,7,8,9,10,11,12,13,14,15],[0,15])])
def Xp.B15:List Nat:=[0,0,2,0,14,30,62,0,128,0,896,1920,3968,8190,16382,32767,65535]
theorem Xp.tab15:rtab .any (opsOf Tryd.f5 15)=Xp.T15:=by kernel_rfl
theorem Xp.bits15:waitsOk Xp.T15.2 Xp.B15=true:=by kernel_rfl
set_option maxHeartbeats 8000000 in
set_option maxRecDepth 100000 in
theorem Xp.calls (k:Nat) (A0_0:Option Addr) (c0_0:Nat) (l0_0:List (S43)) (A0_1:Option Addr) (c0_1:Nat) (l0_1:List Int) (A0_2:Option Addr) (c0_2:Nat) (l0_2:List Int) (A0_3:Option Addr) (c0_3:Nat) (l0_3:List (List Int)) (A0_4:Option Addr) (c0_4:Nat) (l0_4:List (S47)) (r:ByteArray) (w:World) (hr0_0:Kd.C k43 w A0_0 l0_0.length l0_0) (hc0_0:l0_0.length≤c0_0) (hr0_1:Kd.C (Kd.int .i64) w A0_1 l0_1.length l0_1) (hc0_1:l0_1.length≤c0_1) (hr0_2:Kd.C (Kd.int .i64) w A0_2 l0_2.length l0_2) (hc0_2:l0_2.length≤c0_2) (hr0_3:Kd.C (Kd.slice 3 (Kd.int .i64)) w A0_3 l0_3.length l0_3) (hc0_3:l0_3.length≤c0_3) (hr0_4:Kd.C k47 w A0_4 l0_4.length l0_4) (hc0_4:l0_4.length≤c0_4) (h:Xp.f k l0_0 l0_1 l0_2 l0_3 l0_4=some r) :
  Calls Tryd.prog 5 #[.agg #[.slice A0_0 l0_0.length c0_0,.slice A0_1 l0_1.length c0_1,.slice A0_2 l0_2.length c0_2,.slice A0_3 l0_3.length c0_3,.slice A0_4 l0_4.length c0_4]] w fun e w'=>e=.returned (.string r)∧Below w.heap.size w w':=by
 have hu33:=Tryd.underlying33;have hu43:=Tryd.underlying43;have HR0_0:=Xa.mk hr0_0;have HC0_0:=Xa.mk hc0_0;clear hr0_0 hc0_0;have HR0_1:=Xa.mk hr0_1;have HC0_1:=Xa.mk hc0_1;clear hr0_1 hc0_1;have HR0_2:=Xa.mk hr0_2;have HC0_2:=Xa.mk hc0_2;clear hr0_2 hc0_2;have HR0_3:=Xa.mk hr0_3;have HC0_3:=Xa.mk hc0_3;clear hr0_3 hc0_3;have HR0_4:=Xa.mk hr0_4;have HC0_4:=Xa.mk hc0_4;clear hr0_4 hc0_4;have HB:=Xa.mk (Below.refl w.heap.size w);have H:(Xp.l0 k (⟨#[]⟩:ByteArray) 0 l0_0 l0_1 l0_2 l0_3 l0_4)=some r:=h;clear h;have H':=Xa.mk H;clear H
 go_enter Tryd.func5,Tryd.ntmps5
 go_wp2_with (first|((with_reducible refine Xy (N:=1) rfl ?_);refine Xw ?hg (N:=1) ?hd (cs:=#[.slice A0_0 l0_0.length c0_0,.slice A0_1 l0_1.length c0_1,.slice A0_2 l0_2.length c0_2,.slice A0_3 l0_3.length c0_3,.slice A0_4 l0_4.length c0_4]) (t:=33) ?hr ?_;(case hd=>rfl);(case hg=>rfl);(case hr=>first|(go_simp;done)|(go_simp;rfl));intro gb136 hg w2 hbox hb;have n0_:=Xa.mk (Xc (bl_ HB) hb);have n1_:=Xa.mk (hbox);have n2_:=Xa.mk ((by rw [hg];exact (Xb (bl_ HB)):w.heap.size≤gb136));have n3_:=Xa.mk ((by rw [hg];exact (Xb (bl_ HB)):w.heap.size≤gb136));clear HB;have HB:=n0_;have BK136:=n1_;have GW136:=n2_;have GE136:=n3_;clear n0_ n1_ n2_ n3_;clear hb hbox hg))
 go_loopg [3,4] k (fun kq v3 v4 w'=>∃ (x3_1:ByteArray) (x4_1:Int),v3=.string x3_1∧v4=.int .i64 x4_1∧Xa (Xp.l0 kq x3_1 x4_1 l0_0 l0_1 l0_2 l0_3 l0_4=some r)∧Xa (kq≤k)∧Xa (w'.heap[gb136]?=some (.cells #[(.slice A0_0 l0_0.length c0_0),(.slice A0_1 l0_1.length c0_1),(.slice A0_2 l0_2.length c0_2),(.slice A0_3 l0_3.length c0_3),(.slice A0_4 l0_4.length c0_4)] 33 (0,0)))∧Xa (Below w.heap.size w w'))
 case atStart=>exact ⟨((⟨#[]⟩:ByteArray)),(0),(by first|rfl|(simp;done)|(simp [*];done)),(by first|rfl|(simp;done)|(simp [*];done)),H',⟨Nat.le_refl _⟩,⟨ba_ BK136⟩,⟨bl_ HB⟩⟩
 case round=>
  clear H'
  try clear p2
  obtain ⟨x3_1,x4_1,rfl,rfl,HA,HK1,BK136,HB⟩:=hrel
  cases gk with
  |zero=>exact absurd HA.out (by simp [Xp.l0])
  |succ k1=>
   have H:=HA.out;clear HA;simp only [Xp.l0] at H;by_cases c3:x4_1<(l0_0.length:Int)
   ·rw [if_pos c3] at H;have c3b0:decide (x4_1<(l0_0.length:Int))=true:=decide_eq_true c3;clear c3;by_cases c4:0≤x4_1
    ·rw [if_pos c4] at H;have c4b0:decide (0≤x4_1)=true:=decide_eq_true c4;clear c4;obtain ⟨y139,hy139⟩:∃ y_:List Int,y_=(([(Xm l0_0 x4_1).f2,(Xm l0_0 x4_1).f3,(Xm l0_0 x4_1).f4]:List Int)):=⟨_,rfl⟩
     replace H:((Yr.f k1 (⟨#[112,114,111,99]⟩:ByteArray) y139).bind fun t142=>(if x3_1.size+t142.size≤9223372036854775807 then ((Yr.f k1 (⟨#[114,101,103,115]⟩:ByteArray) ((Xm l0_0 x4_1).f0)).bind fun t143=>(if (x3_1 ++ t142).size+t143.size≤9223372036854775807 then ((Xv.f k1 ((Xm l0_0 x4_1).f1) 6).bind fun t144=>(if ((x3_1 ++ t142) ++ t143).size+t144.size≤9223372036854775807 then (if (((x3_1 ++ t142) ++ t143) ++ t144).size+1≤9223372036854775807 then (Xp.l0 k1 ((((x3_1 ++ t142) ++ t143) ++ t144) ++ (⟨#[10]⟩:ByteArray)) (wrap64 (x4_1+1)) l0_0 l0_1 l0_2 l0_3 l0_4) else (none)) else (none))) else (none))) else (none)))=some r:=by subst hy139;first|with_reducible exact H|(have z:=(Option.bind_some _ _).symm.trans H;with_reducible exact z)|exact H
     have Ny139:=Xa.mk hy139;clear hy139;replace H:=Option.bind_eq_some_iff.mp H;obtain ⟨t142,A50,H⟩:=H;replace H:(if x3_1.size+t142.size≤9223372036854775807 then ((Yr.f k1 (⟨#[114,101,103,115]⟩:ByteArray) ((Xm l0_0 x4_1).f0)).bind fun t143=>(if (x3_1 ++ t142).size+t143.size≤9223372036854775807 then ((Xv.f k1 ((Xm l0_0 x4_1).f1) 6).bind fun t144=>(if ((x3_1 ++ t142) ++ t143).size+t144.size≤9223372036854775807 then (if (((x3_1 ++ t142) ++ t143) ++ t144).size+1≤9223372036854775807 then (Xp.l0 k1 ((((x3_1 ++ t142) ++ t143) ++ t144) ++ (⟨#[10]⟩:ByteArray)) (wrap64 (x4_1+1)) l0_0 l0_1 l0_2 l0_3 l0_4) else (none)) else (none))) else (none))) else (none))=some r:=H;have A5:=Xa.mk A50;clear A50;by_cases c6:x3_1.size+t142.size≤9223372036854775807
     ·rw [if_pos c6] at H;have c6b0:=eq_true c6;have c6b1:decide (x3_1.size+t142.size≤9223372036854775807)=true:=decide_eq_true c6
      try have c6b2:(9223372036854775807<x3_1.size+t142.size)=False:=eq_false (Nat.not_lt.2 c6)
      replace H:=Option.bind_eq_some_iff.mp H;obtain ⟨t143,A70,H⟩:=H;replace H:(if (x3_1 ++ t142).size+t143.size≤9223372036854775807 then ((Xv.f k1 ((Xm l0_0 x4_1).f1) 6).bind fun t144=>(if ((x3_1 ++ t142) ++ t143).size+t144.size≤9223372036854775807 then (if (((x3_1 ++ t142) ++ t143) ++ t144).size+1≤9223372036854775807 then (Xp.l0 k1 ((((x3_1 ++ t142) ++ t143) ++ t144) ++ (⟨#[10]⟩:ByteArray)) (wrap64 (x4_1+1)) l0_0 l0_1 l0_2 l0_3 l0_4) else (none)) else (none))) else (none))=some r:=H;have A7:=Xa.mk A70;clear A70;by_cases c8:(x3_1 ++ t142).size+t143.size≤9223372036854775807
      ·rw [if_pos c8] at H;have c8b0:=eq_true c8;have c8b1:decide ((x3_1 ++ t142).size+t143.size≤9223372036854775807)=true:=decide_eq_true c8
       have c8s:(x3_1.size+t142.size)+t143.size≤9223372036854775807:=by have h_:=c8;simp only [ByteArray.size_append] at h_;exact h_
       have c8s0:=eq_true c8s;have c8s1:decide ((x3_1.size+t142.size)+t143.size≤9223372036854775807)=true:=decide_eq_true c8s
       try have c8s2:(9223372036854775807<(x3_1.size+t142.size)+t143.size)=False:=eq_false (Nat.not_lt.2 c8s)
       try have c8b2:(9223372036854775807<(x3_1 ++ t142).size+t143.size)=False:=eq_false (Nat.not_lt.2 c8)
       replace H:=Option.bind_eq_some_iff.mp H;obtain ⟨t144,A90,H⟩:=H;replace H:(if ((x3_1 ++ t142) ++ t143).size+t144.size≤9223372036854775807 then (if (((x3_1 ++ t142) ++ t143) ++ t144).size+1≤9223372036854775807 then (Xp.l0 k1 ((((x3_1 ++ t142) ++ t143) ++ t144) ++ (⟨#[10]⟩:ByteArray)) (wrap64 (x4_1+1)) l0_0 l0_1 l0_2 l0_3 l0_4) else (none)) else (none))=some r:=H;have A9:=Xa.mk A90;clear A90;by_cases c10:((x3_1 ++ t142) ++ t143).size+t144.size≤9223372036854775807
       ·rw [if_pos c10] at H;have c10b0:=eq_true c10;have c10b1:decide (((x3_1 ++ t142) ++ t143).size+t144.size≤9223372036854775807)=true:=decide_eq_true c10
        have c10s:((x3_1.size+t142.size)+t143.size)+t144.size≤9223372036854775807:=by have h_:=c10;simp only [ByteArray.size_append] at h_;exact h_
        have c10s0:=eq_true c10s;have c10s1:decide (((x3_1.size+t142.size)+t143.size)+t144.size≤9223372036854775807)=true:=decide_eq_true c10s
        try have c10s2:(9223372036854775807<((x3_1.size+t142.size)+t143.size)+t144.size)=False:=eq_false (Nat.not_lt.2 c10s)
        try have c10b2:(9223372036854775807<((x3_1 ++ t142) ++ t143).size+t144.size)=False:=eq_false (Nat.not_lt.2 c10)
        by_cases c11:(((x3_1 ++ t142) ++ t143) ++ t144).size+1≤9223372036854775807
        ·rw [if_pos c11] at H;have c11b0:=eq_true c11;have c11b1:decide ((((x3_1 ++ t142) ++ t143) ++ t144).size+1≤9223372036854775807)=true:=decide_eq_true c11
         have c11s:(((x3_1.size+t142.size)+t143.size)+t144.size)+1≤9223372036854775807:=by have h_:=c11;simp only [ByteArray.size_append] at h_;exact h_
         have c11s0:=eq_true c11s;have c11s1:decide ((((x3_1.size+t142.size)+t143.size)+t144.size)+1≤9223372036854775807)=true:=decide_eq_true c11s
         try have c11s2:(9223372036854775807<(((x3_1.size+t142.size)+t143.size)+t144.size)+1)=False:=eq_false (Nat.not_lt.2 c11s)
         try have c11b2:(9223372036854775807<(((x3_1 ++ t142) ++ t143) ++ t144).size+1)=False:=eq_false (Nat.not_lt.2 c11)
         have H':=Xa.mk H;clear H;obtain ⟨hcz12_0,hcz12_1,hcz12_2,hcz12_3,hcz12_4⟩:=Zm BK136.out;obtain ⟨hfz12_0,hfz12_1,hfz12_2,hfz12_3,hfz12_4⟩:=Zn BK136.out;have p137:0≤(x4_1:Int):=of_decide_eq_true (by first|(with_reducible assumption)|assumption);have q137:x4_1<(l0_0.length:Int):=of_decide_eq_true (by first|(with_reducible assumption)|assumption);obtain ⟨ad137,A137_0,c137_0,A137_1,c137_1,e137,hx137_0,hx137_1,hx137_2,hx137_3,hx137_4,hl137_0,hi137_0,hl137_1,hi137_1⟩:=at_T43 HR0_0.out x4_1 p137 q137;cases e137
         replace hx137_0:=(HB.out.cell (World.block_lt_of_cell? w _ hx137_0)).trans hx137_0;replace hx137_1:=(HB.out.cell (World.block_lt_of_cell? w _ hx137_1)).trans hx137_1;replace hx137_2:=(HB.out.cell (World.block_lt_of_cell? w _ hx137_2)).trans hx137_2;replace hx137_3:=(HB.out.cell (World.block_lt_of_cell? w _ hx137_3)).trans hx137_3;replace hx137_4:=(HB.out.cell (World.block_lt_of_cell? w _ hx137_4)).trans hx137_4;have HR137_0:=Xa.mk hi137_0;have HC137_0:=Xa.mk hl137_0;clear hi137_0 hl137_0;have HR137_1:=Xa.mk hi137_1;have HC137_1:=Xa.mk hl137_1;clear hi137_1 hl137_1;replace p137:=eq_true p137;replace q137:=eq_true q137
         try go_wp2_with (first|((with_reducible refine Xy (N:=5) rfl ?_);refine Xw ?hg (N:=5) ?hd (cs:=#[.slice none 0 0,.slice none 0 0,.int .i64 0,.int .i64 0,.int .i64 0]) (t:=43) ?hr ?_;(case hd=>rfl);(case hg=>rfl);(case hr=>first|(go_simp;done)|(go_simp;rfl));intro gb138 hg w13 hbox hb;have n0_:=Xa.mk (Xh (g:=gb136) (o:=.cells #[.slice (some ad137) l0_0.length c0_0,.slice A0_1 l0_1.length c0_1,.slice A0_2 l0_2.length c0_2,.slice A0_3 l0_3.length c0_3,.slice A0_4 l0_4.length c0_4] 33 (0,0)) (ba_ BK136) hb);have n1_:=Xa.mk (Xc (bl_ HB) hb);have n2_:=Xa.mk (hbox);have n3_:=Xa.mk ((by rw [hg];exact (Xb (bl_ HB)):w.heap.size≤gb138));have n4_:=Xa.mk ((by rw [hg];exact (Xb (bl_ HB)):w.heap.size≤gb138));have n5_:=Xa.mk ((by rw [hg];exact Nat.ne_of_lt (Ym (g:=gb136) (o:=.cells #[.slice (some ad137) l0_0.length c0_0,.slice A0_1 l0_1.length c0_1,.slice A0_2 l0_2.length c0_2,.slice A0_3 l0_3.length c0_3,.slice A0_4 l0_4.length c0_4] 33 (0,0)) (ba_ BK136)):gb136≠gb138));have n6_:=Xa.mk ((by rw [hg];exact Nat.ne_of_gt (Ym (g:=gb136) (o:=.cells #[.slice (some ad137) l0_0.length c0_0,.slice A0_1 l0_1.length c0_1,.slice A0_2 l0_2.length c0_2,.slice A0_3 l0_3.length c0_3,.slice A0_4 l0_4.length c0_4] 33 (0,0)) (ba_ BK136)):gb138≠gb136));clear BK136;clear HB;have BK136:=n0_;have HB:=n1_;have BK138:=n2_;have GW138:=n3_;have GE138:=n4_;have NB136_138:=n5_;have NB138_136:=n6_;clear n0_ n1_ n2_ n3_ n4_ n5_ n6_;clear hb hbox hg;have hnb14:=NB138_136.out;have hnc14:=NB136_138.out;obtain ⟨hcz15_0,hcz15_1,hcz15_2,hcz15_3,hcz15_4⟩:=Zm BK138.out;obtain ⟨hfz15_0,hfz15_1,hfz15_2,hfz15_3,hfz15_4⟩:=Zn BK138.out))
         have n0_:Xa ((((((w13.setCell ⟨gb138,0,none⟩ (.slice A137_0 ((Xm l0_0 x4_1).f0).length c137_0)).setCell ⟨gb138,1,none⟩ (.slice A137_1 ((Xm l0_0 x4_1).f1).length c137_1)).setCell ⟨gb138,2,none⟩ (.int .i64 ((Xm l0_0 x4_1).f2))).setCell ⟨gb138,3,none⟩ (.int .i64 ((Xm l0_0 x4_1).f3))).setCell ⟨gb138,4,none⟩ (.int .i64 ((Xm l0_0 x4_1).f4))).heap[gb136]?=some (.cells #[.slice (some ad137) l0_0.length c0_0,.slice A0_1 l0_1.length c0_1,.slice A0_2 l0_2.length c0_2,.slice A0_3 l0_3.length c0_3,.slice A0_4 l0_4.length c0_4] 33 (0,0))):=⟨by (with_reducible repeat (first|refine Xj ?_ _|refine Xk ?_|refine Xi ?_ _));refine Yq ?_ NB136_138.out _;(with_reducible repeat (first|refine Xj ?_ _|refine Xk ?_|refine Xi ?_ _));refine Yq ?_ NB136_138.out _;(with_reducible repeat (first|refine Xj ?_ _|refine Xk ?_|refine Xi ?_ _));refine Yq ?_ NB136_138.out _;(with_reducible repeat (first|refine Xj ?_ _|refine Xk ?_|refine Xi ?_ _));refine Yq ?_ NB136_138.out _;(with_reducible repeat (first|refine Xj ?_ _|refine Xk ?_|refine Xi ?_ _));refine Yq ?_ NB136_138.out _;(with_reducible repeat (first|refine Xj ?_ _|refine Xk ?_|refine Xi ?_ _));exact BK136.out⟩;have n1_:Xa ((((((w13.setCell ⟨gb138,0,none⟩ (.slice A137_0 ((Xm l0_0 x4_1).f0).length c137_0)).setCell ⟨gb138,1,none⟩ (.slice A137_1 ((Xm l0_0 x4_1).f1).length c137_1)).setCell ⟨gb138,2,none⟩ (.int .i64 ((Xm l0_0 x4_1).f2))).setCell ⟨gb138,3,none⟩ (.int .i64 ((Xm l0_0 x4_1).f3))).setCell ⟨gb138,4,none⟩ (.int .i64 ((Xm l0_0 x4_1).f4))).heap[gb138]?=some (.cells #[.slice A137_0 ((Xm l0_0 x4_1).f0).length c137_0,.slice A137_1 ((Xm l0_0 x4_1).f1).length c137_1,.int .i64 ((Xm l0_0 x4_1).f2),.int .i64 ((Xm l0_0 x4_1).f3),.int .i64 ((Xm l0_0 x4_1).f4)] 43 (0,0))):=⟨by (with_reducible repeat (first|refine Xj ?_ _|refine Xk ?_|refine Xi ?_ _));refine Yh (cs:=#[.slice A137_0 ((Xm l0_0 x4_1).f0).length c137_0,.slice A137_1 ((Xm l0_0 x4_1).f1).length c137_1,.int .i64 ((Xm l0_0 x4_1).f2),.int .i64 ((Xm l0_0 x4_1).f3),.int .i64 0]) ?_ 4 _ rfl;(with_reducible repeat (first|refine Xj ?_ _|refine Xk ?_|refine Xi ?_ _));refine Yh (cs:=#[.slice A137_0 ((Xm l0_0 x4_1).f0).length c137_0,.slice A137_1 ((Xm l0_0 x4_1).f1).length c137_1,.int .i64 ((Xm l0_0 x4_1).f2),.int .i64 0,.int .i64 0]) ?_ 3 _ rfl;(with_reducible repeat (first|refine Xj ?_ _|refine Xk ?_|refine Xi ?_ _));refine Yh (cs:=#[.slice A137_0 ((Xm l0_0 x4_1).f0).length c137_0,.slice A137_1 ((Xm l0_0 x4_1).f1).length c137_1,.int .i64 0,.int .i64 0,.int .i64 0]) ?_ 2 _ rfl;(with_reducible repeat (first|refine Xj ?_ _|refine Xk ?_|refine Xi ?_ _));refine Yh (cs:=#[.slice A137_0 ((Xm l0_0 x4_1).f0).length c137_0,.slice none 0 0,.int .i64 0,.int .i64 0,.int .i64 0]) ?_ 1 _ rfl;(with_reducible repeat (first|refine Xj ?_ _|refine Xk ?_|refine Xi ?_ _));refine Yh (cs:=#[.slice none 0 0,.slice none 0 0,.int .i64 0,.int .i64 0,.int .i64 0]) ?_ 0 _ rfl;(with_reducible repeat (first|refine Xj ?_ _|refine Xk ?_|refine Xi ?_ _));exact BK138.out⟩;have n2_:Xa (Below w.heap.size w (((((w13.setCell ⟨gb138,0,none⟩ (.slice A137_0 ((Xm l0_0 x4_1).f0).length c137_0)).setCell ⟨gb138,1,none⟩ (.slice A137_1 ((Xm l0_0 x4_1).f1).length c137_1)).setCell ⟨gb138,2,none⟩ (.int .i64 ((Xm l0_0 x4_1).f2))).setCell ⟨gb138,3,none⟩ (.int .i64 ((Xm l0_0 x4_1).f3))).setCell ⟨gb138,4,none⟩ (.int .i64 ((Xm l0_0 x4_1).f4)))):=⟨bl_ HB⟩
         (try clear BK136)
         (try clear BK138)
         (try clear HB)
         generalize (((((w13.setCell ⟨gb138,0,none⟩ (.slice A137_0 ((Xm l0_0 x4_1).f0).length c137_0)).setCell ⟨gb138,1,none⟩ (.slice A137_1 ((Xm l0_0 x4_1).f1).length c137_1)).setCell ⟨gb138,2,none⟩ (.int .i64 ((Xm l0_0 x4_1).f2))).setCell ⟨gb138,3,none⟩ (.int .i64 ((Xm l0_0 x4_1).f3))).setCell ⟨gb138,4,none⟩ (.int .i64 ((Xm l0_0 x4_1).f4)))=w16 at n0_ n1_ n2_ ⊢
         have BK136:=n0_;have BK138:=n1_;have HB:=n2_;clear n0_ n1_ n2_;have n0_:=Xa.mk (Xk BK136.out);have n1_:=Xa.mk (Xk BK138.out);have n2_:=Xa.mk (Zt HB.out);clear BK136;clear BK138;clear HB;have BK136:=n0_;have BK138:=n1_;have HB:=n2_;clear n0_ n1_ n2_;refine start_ (n:=20) (S:=fun w'=>w'.cell? ⟨gb138,0,none⟩=some (.slice A137_0 ((Xm l0_0 x4_1).f0).length c137_0)∧w'.cell? ⟨gb138,1,none⟩=some (.slice A137_1 ((Xm l0_0 x4_1).f1).length c137_1)∧w'.cell? ⟨gb138,2,none⟩=some (.int .i64 ((Xm l0_0 x4_1).f2))∧w'.cell? ⟨gb138,3,none⟩=some (.int .i64 ((Xm l0_0 x4_1).f3))∧w'.cell? ⟨gb138,4,none⟩=some (.int .i64 ((Xm l0_0 x4_1).f4))) (ds:=[]) #[false,false,false,false,false,false,false,false,false,false,false,false,false,false,false,false,false,false,false,false] (by kernel_rfl) rfl rfl ⟨(Xd BK138.out 0).trans rfl,(Xd BK138.out 1).trans rfl,(Xd BK138.out 2).trans rfl,(Xd BK138.out 3).trans rfl,(Xd BK138.out 4).trans rfl⟩ (fun hHeld=>?_);refine with_tabW Xp.tab6 Xp.bits6 (fun HT_ HW_=>?_)
         generalize w16.drew=w17 at BK136 BK138 HB hHeld ⊢
         refine Yf (i:=0) (N:=some 20) (v:=?_) (a':=?_) #[true,false,false,false,false,false,false,false,false,false,false,false,false,false,false,false,false,false,false,false] rfl rfl (Ya HT_.out (by kernel_rfl)) (fun _ _ _ h=>h) (Or.inl ⟨by rfl,?_⟩) ?_ ?_
         rotate_left
         ·intro w';go_simp
          with_reducible rfl
         rotate_left
         ·simp only [Act.put,List.setIfInBounds_toArray,List.set_cons_zero,List.set_cons_succ,Xu,Xt];rfl
         refine Yf (i:=1) (N:=some 21) (v:=?_) (a':=?_) #[true,true,false,false,false,false,false,false,false,false,false,false,false,false,false,false,false,false,false,false] rfl rfl (Ya HT_.out (by kernel_rfl)) (fun _ _ _ h=>h) (Or.inl ⟨by rfl,?_⟩) ?_ ?_
         rotate_left
         ·intro w';go_simp
          with_reducible rfl
         rotate_left
         ·simp only [Act.put,List.setIfInBounds_toArray,List.set_cons_zero,List.set_cons_succ,Xu,Xt];rfl
         refine Yf (i:=3) (N:=some 23) (v:=?_) (a':=?_) #[true,true,false,true,false,false,false,false,false,false,false,false,false,false,false,false,false,false,false,false] rfl rfl (Ya HT_.out (by kernel_rfl)) (fun _ _ _ h=>h) (Or.inl ⟨by rfl,?_⟩) ?_ ?_
         rotate_left
         ·intro w';go_simp
          with_reducible rfl
         rotate_left
         ·simp only [Act.put,List.setIfInBounds_toArray,List.set_cons_zero,List.set_cons_succ,Xu,Xt];rfl
         refine Yf (i:=5) (N:=some 25) (v:=?_) (a':=?_) #[true,true,false,true,false,true,false,false,false,false,false,false,false,false,false,false,false,false,false,false] rfl rfl (Ya HT_.out (by kernel_rfl)) (fun _ _ _ h=>h) (Or.inl ⟨by rfl,?_⟩) ?_ ?_
         rotate_left
         ·intro w';go_simp
          with_reducible rfl
         rotate_left
         ·simp only [Act.put,List.setIfInBounds_toArray,List.set_cons_zero,List.set_cons_succ,Xu,Xt];rfl
         refine Yf (i:=10) (N:=some 30) (v:=?_) (a':=?_) #[true,true,false,true,false,true,false,false,false,false,true,false,false,false,false,false,false,false,false,false] rfl rfl (Ya HT_.out (by kernel_rfl)) (fun _ _ _ h=>h) (Or.inl ⟨by rfl,?_⟩) ?_ ?_
         rotate_left
         ·intro w';go_simp
          with_reducible rfl
         rotate_left
         ·simp only [Act.put,List.setIfInBounds_toArray,List.set_cons_zero,List.set_cons_succ,Xu,Xt];rfl
         refine Yf (i:=14) (N:=some 34) (v:=?_) (a':=?_) #[true,true,false,true,false,true,false,false,false,false,true,false,false,false,true,false,false,false,false,false] rfl rfl (Ya HT_.out (by kernel_rfl)) (fun _ _ _ h=>h) (Or.inl ⟨by rfl,?_⟩) ?_ ?_
         rotate_left
         ·intro w';go_simp
          with_reducible rfl
         rotate_left
         ·simp only [Act.put,List.setIfInBounds_toArray,List.set_cons_zero,List.set_cons_succ,Xu,Xt];rfl
         refine Zw (i:=2) (N:=some 22) (v:=?_) (a':=?_) #[true,true,true,true,false,true,false,false,false,false,true,false,false,false,true,false,false,false,false,false] rfl rfl (Zb HT_.out HW_.out (by kernel_rfl)) (fun _ _ _ h=>h) (Or.inl ⟨by rfl,?_⟩) hHeld ?_ ?_
         rotate_left
         ·rintro w' ⟨s0,s1,s2,s3,s4⟩
          go_simp
          with_reducible rfl
         rotate_left
         ·simp only [Act.put,List.setIfInBounds_toArray,List.set_cons_zero,List.set_cons_succ,Xu,Xt];rfl
         refine Zw (i:=4) (N:=some 24) (v:=?_) (a':=?_) #[true,true,true,true,true,true,false,false,false,false,true,false,false,false,true,false,false,false,false,false] rfl rfl (Zb HT_.out HW_.out (by kernel_rfl)) (fun _ _ _ h=>h) (Or.inl ⟨by rfl,?_⟩) hHeld ?_ ?_
         rotate_left
         ·rintro w' ⟨s0,s1,s2,s3,s4⟩
          go_simp
          with_reducible rfl
         rotate_left
         ·simp only [Act.put,List.setIfInBounds_toArray,List.set_cons_zero,List.set_cons_succ,Xu,Xt];rfl
         refine Zw (i:=6) (N:=some 26) (v:=?_) (a':=?_) #[true,true,true,true,true,true,true,false,false,false,true,false,false,false,true,false,false,false,false,false] rfl rfl (Zb HT_.out HW_.out (by kernel_rfl)) (fun _ _ _ h=>h) (Or.inl ⟨by rfl,?_⟩) hHeld ?_ ?_
         rotate_left
         ·rintro w' ⟨s0,s1,s2,s3,s4⟩
          go_simp
          with_reducible rfl
         rotate_left
         ·simp only [Act.put,List.setIfInBounds_toArray,List.set_cons_zero,List.set_cons_succ,Xu,Xt];rfl
         refine Zw (i:=11) (N:=some 31) (v:=?_) (a':=?_) #[true,true,true,true,true,true,true,false,false,false,true,true,false,false,true,false,false,false,false,false] rfl rfl (Zb HT_.out HW_.out (by kernel_rfl)) (fun _ _ _ h=>h) (Or.inl ⟨by rfl,?_⟩) hHeld ?_ ?_
         rotate_left
         ·rintro w' ⟨s0,s1,s2,s3,s4⟩
          go_simp
          with_reducible rfl
         rotate_left
         ·simp only [Act.put,List.setIfInBounds_toArray,List.set_cons_zero,List.set_cons_succ,Xu,Xt];rfl
         refine Zw (i:=15) (N:=some 35) (v:=?_) (a':=?_) #[true,true,true,true,true,true,true,false,false,false,true,true,false,false,true,true,false,false,false,false] rfl rfl (Zb HT_.out HW_.out (by kernel_rfl)) (fun _ _ _ h=>h) (Or.inl ⟨by rfl,?_⟩) hHeld ?_ ?_
         rotate_left
         ·rintro w' ⟨s0,s1,s2,s3,s4⟩
          go_simp
          with_reducible rfl
         rotate_left
         ·simp only [Act.put,List.setIfInBounds_toArray,List.set_cons_zero,List.set_cons_succ,Xu,Xt];rfl
         refine one_ (i:=7) (N:=some 27) #[true,true,true,true,true,true,true,true,false,false,true,true,false,false,true,true,false,false,false,false] rfl rfl (Ue HT_.out (by kernel_rfl)) (by decide) (fun K hK=>?_)
         refine Kd.R_lit_step (Kd.int .i64) _ 3 ?hg (N:=27) ?hd (xs:=([(Xm l0_0 x4_1).f2,(Xm l0_0 x4_1).f3,(Xm l0_0 x4_1).f4]:List Int)) (inner:=[.int .i64 ((Xm l0_0 x4_1).f2),.int .i64 ((Xm l0_0 x4_1).f3),.int .i64 ((Xm l0_0 x4_1).f4)]) (ok:=fun _=>True) (okp:=fun _=>True) ?hr ?hp (fun _ hk=>hk) trivial (Below.refl _ _) (Nat.le_refl _) (by simp) ?_;(case hd=>rfl);(case hg=>rfl);(case hr=>first|(go_simp;done)|(go_simp;rfl));(case hp=>exact (Zp.one (show Kd.M (Kd.int .i64) _ _ _ ((Xm l0_0 x4_1).f2) [.int .i64 ((Xm l0_0 x4_1).f2)] from rfl) (Zp.one (show Kd.M (Kd.int .i64) _ _ _ ((Xm l0_0 x4_1).f3) [.int .i64 ((Xm l0_0 x4_1).f3)] from rfl) (Zp.one (show Kd.M (Kd.int .i64) _ _ _ ((Xm l0_0 x4_1).f4) [.int .i64 ((Xm l0_0 x4_1).f4)] from rfl) (Zp.none _ _)))))
         intro v140 w18 ho19 hb hg_ hnew_;clear hg_ hnew_
         (first|rw [← Ny139.out] at ho19|(simp only [Int.reduceToNat] at ho19;rw [← Ny139.out] at ho19))
         have n0_:=Xa.mk (Kd.Yt ho19 (Xb (bl_ HB)));have n1_:=Xa.mk (Xh (g:=gb136) (o:=.cells #[.slice (some ad137) l0_0.length c0_0,.slice A0_1 l0_1.length c0_1,.slice A0_2 l0_2.length c0_2,.slice A0_3 l0_3.length c0_3,.slice A0_4 l0_4.length c0_4] 33 (0,0)) (ba_ BK136) hb);have n2_:=Xa.mk (Xh (g:=gb138) (o:=.cells #[.slice A137_0 ((Xm l0_0 x4_1).f0).length c137_0,.slice A137_1 ((Xm l0_0 x4_1).f1).length c137_1,.int .i64 ((Xm l0_0 x4_1).f2),.int .i64 ((Xm l0_0 x4_1).f3),.int .i64 ((Xm l0_0 x4_1).f4)] 43 (0,0)) (ba_ BK138) hb);have n3_:=Xa.mk (Xc (bl_ HB) hb);clear BK136;clear BK138;clear HB;have HO141:=n0_;have BK136:=n1_;have BK138:=n2_;have HB:=n3_;clear n0_ n1_ n2_ n3_;clear hb ho19;obtain ⟨Ao20,co20,eo20⟩:=Kd.Yz HO141.out
         (first|subst eo20|(injection eo20 with f1_ f2_ f3_;have f4_:=f1_.symm;have f5_:=f3_.symm;clear f1_ f2_ f3_;subst f4_;subst f5_))
         refine hK.out _ _ ⟨(Xd BK138.out 0).trans rfl,(Xd BK138.out 1).trans rfl,(Xd BK138.out 2).trans rfl,(Xd BK138.out 3).trans rfl,(Xd BK138.out 4).trans rfl⟩ (fun hHeld=>?_)
         clear hK K;refine norm_ (a':=?_) ?_ ?_
         rotate_left
         ·show Act.put _ (some 27) _=_
          simp only [Act.put,List.setIfInBounds_toArray,List.set_cons_zero,List.set_cons_succ,Xu,Xt];rfl
         refine one_ (i:=8) (N:=some 28) #[true,true,true,true,true,true,true,true,true,false,true,true,false,false,true,true,false,false,false,false] rfl rfl (Ue HT_.out (by kernel_rfl)) (by decide) (fun K hK=>?_)
         refine goes_ Tryd.func13 (by kernel_rfl) rfl #[.string (⟨#[112,114,111,99]⟩:ByteArray),.slice Ao20 y139.length co20] (by rfl) rfl rfl ga_ ?_
         with_reducible refine (Yr.calls k1 (⟨#[112,114,111,99]⟩:ByteArray) _ _ y139 t142 _ ?side1 ?side2 A5.out).mono ?_
         (case side1=>repeat (first|exact (Kd.R_reads' HO141.out).2.2|(with_reducible refine Kd.Xe ?_ _)|(with_reducible refine Kd.Xf ?_ _)|(with_reducible refine Kd.Xn ?_)))
         (case side2=>exact (Kd.R_reads' HO141.out).2.1)
         rintro e w21 ⟨rfl,hb⟩
         refine ⟨_,rfl,?_⟩
         have n0_:=Xa.mk (Kd.Xx (Kd.ra_ (HO141.out)) hb);have n1_:=Xa.mk (Xh (g:=gb136) (o:=.cells #[.slice (some ad137) l0_0.length c0_0,.slice A0_1 l0_1.length c0_1,.slice A0_2 l0_2.length c0_2,.slice A0_3 l0_3.length c0_3,.slice A0_4 l0_4.length c0_4] 33 (0,0)) (ba_ BK136) hb);have n2_:=Xa.mk (Xh (g:=gb138) (o:=.cells #[.slice A137_0 ((Xm l0_0 x4_1).f0).length c137_0,.slice A137_1 ((Xm l0_0 x4_1).f1).length c137_1,.int .i64 ((Xm l0_0 x4_1).f2),.int .i64 ((Xm l0_0 x4_1).f3),.int .i64 ((Xm l0_0 x4_1).f4)] 43 (0,0)) (ba_ BK138) hb);have n3_:=Xa.mk (Xc (bl_ HB) hb);clear HO141;clear BK136;clear BK138;clear HB;have HO141:=n0_;have BK136:=n1_;have BK138:=n2_;have HB:=n3_;clear n0_ n1_ n2_ n3_
         (try clear hb)
         (try clear hb2)
         (try clear hk)
         (try clear hi)
         refine hK.out _ _ ⟨(Xd BK138.out 0).trans rfl,(Xd BK138.out 1).trans rfl,(Xd BK138.out 2).trans rfl,(Xd BK138.out 3).trans rfl,(Xd BK138.out 4).trans rfl⟩ (fun hHeld=>?_)
         clear hK K;refine norm_ (a':=?_) ?_ ?_
         rotate_left
         ·show Act.put _ (some 28) _=_
          simp only [Act.put,List.setIfInBounds_toArray,List.set_cons_zero,List.set_cons_succ,Xu,Xt];rfl
         refine Yf (i:=9) (N:=some 29) (v:=?_) (a':=?_) #[true,true,true,true,true,true,true,true,true,true,true,true,false,false,true,true,false,false,false,false] rfl rfl (Ya HT_.out (by kernel_rfl)) (fun _ _ _ h=>h) (Or.inl ⟨by rfl,?_⟩) ?_ ?_
         rotate_left
         ·intro w';go_simp
          with_reducible rfl
         rotate_left
         ·simp only [Act.put,List.setIfInBounds_toArray,List.set_cons_zero,List.set_cons_succ,Xu,Xt];rfl
         refine one_ (i:=12) (N:=some 32) #[true,true,true,true,true,true,true,true,true,true,true,true,true,false,true,true,false,false,false,false] rfl rfl (Ue HT_.out (by kernel_rfl)) (by decide) (fun K hK=>?_)
         refine goes_ Tryd.func13 (by kernel_rfl) rfl #[.string (⟨#[114,101,103,115]⟩:ByteArray),.slice A137_0 ((Xm l0_0 x4_1).f0).length c137_0] (by rfl) rfl rfl ga_ ?_
         with_reducible refine (Yr.calls k1 (⟨#[114,101,103,115]⟩:ByteArray) _ _ ((Xm l0_0 x4_1).f0) t143 _ ?side1 ?side2 A7.out).mono ?_
         (case side1=>repeat (first|exact (Kd.Xl HR137_0.out HB.out)|(with_reducible refine Kd.Xe ?_ _)|(with_reducible refine Kd.Xf ?_ _)|(with_reducible refine Kd.Xn ?_)))
         (case side2=>exact HC137_0.out)
         rintro e w22 ⟨rfl,hb⟩
         refine ⟨_,rfl,?_⟩
         have n0_:=Xa.mk (Kd.Xx (Kd.ra_ (HO141.out)) hb);have n1_:=Xa.mk (Xh (g:=gb136) (o:=.cells #[.slice (some ad137) l0_0.length c0_0,.slice A0_1 l0_1.length c0_1,.slice A0_2 l0_2.length c0_2,.slice A0_3 l0_3.length c0_3,.slice A0_4 l0_4.length c0_4] 33 (0,0)) (ba_ BK136) hb);have n2_:=Xa.mk (Xh (g:=gb138) (o:=.cells #[.slice A137_0 ((Xm l0_0 x4_1).f0).length c137_0,.slice A137_1 ((Xm l0_0 x4_1).f1).length c137_1,.int .i64 ((Xm l0_0 x4_1).f2),.int .i64 ((Xm l0_0 x4_1).f3),.int .i64 ((Xm l0_0 x4_1).f4)] 43 (0,0)) (ba_ BK138) hb);have n3_:=Xa.mk (Xc (bl_ HB) hb);clear HO141;clear BK136;clear BK138;clear HB;have HO141:=n0_;have BK136:=n1_;have BK138:=n2_;have HB:=n3_;clear n0_ n1_ n2_ n3_
         (try clear hb)
         (try clear hb2)
         (try clear hk)
         (try clear hi)
         refine hK.out _ _ ⟨(Xd BK138.out 0).trans rfl,(Xd BK138.out 1).trans rfl,(Xd BK138.out 2).trans rfl,(Xd BK138.out 3).trans rfl,(Xd BK138.out 4).trans rfl⟩ (fun hHeld=>?_)
         clear hK K;refine norm_ (a':=?_) ?_ ?_
         rotate_left
         ·show Act.put _ (some 32) _=_
          simp only [Act.put,List.setIfInBounds_toArray,List.set_cons_zero,List.set_cons_succ,Xu,Xt];rfl
         refine Yf (i:=13) (N:=some 33) (v:=?_) (a':=?_) #[true,true,true,true,true,true,true,true,true,true,true,true,true,true,true,true,false,false,false,false] rfl rfl (Ya HT_.out (by kernel_rfl)) (fun _ _ _ h=>h) (Or.inl ⟨by rfl,?_⟩) ?_ ?_
         rotate_left
         ·intro w';go_simp
          with_reducible rfl
         rotate_left
         ·simp only [Act.put,List.setIfInBounds_toArray,List.set_cons_zero,List.set_cons_succ,Xu,Xt];rfl
         refine one_ (i:=16) (N:=some 36) #[true,true,true,true,true,true,true,true,true,true,true,true,true,true,true,true,true,false,false,false] rfl rfl (Ue HT_.out (by kernel_rfl)) (by decide) (fun K hK=>?_)
         refine goes_ Tryd.func14 (by kernel_rfl) rfl #[.slice A137_1 ((Xm l0_0 x4_1).f1).length c137_1,.int .i64 6] (by rfl) rfl rfl ga_ ?_
         with_reducible refine (Xv.calls k1 _ _ ((Xm l0_0 x4_1).f1) 6 t144 _ ?side1 ?side2 A9.out).mono ?_
         (case side1=>repeat (first|exact (Kd.Xl HR137_1.out HB.out)|(with_reducible refine Kd.Xe ?_ _)|(with_reducible refine Kd.Xf ?_ _)|(with_reducible refine Kd.Xn ?_)))
         (case side2=>exact HC137_1.out)
         rintro e w23 ⟨rfl,hb⟩
         refine ⟨_,rfl,?_⟩
         have n0_:=Xa.mk (Kd.Xx (Kd.ra_ (HO141.out)) hb);have n1_:=Xa.mk (Xh (g:=gb136) (o:=.cells #[.slice (some ad137) l0_0.length c0_0,.slice A0_1 l0_1.length c0_1,.slice A0_2 l0_2.length c0_2,.slice A0_3 l0_3.length c0_3,.slice A0_4 l0_4.length c0_4] 33 (0,0)) (ba_ BK136) hb);have n2_:=Xa.mk (Xh (g:=gb138) (o:=.cells #[.slice A137_0 ((Xm l0_0 x4_1).f0).length c137_0,.slice A137_1 ((Xm l0_0 x4_1).f1).length c137_1,.int .i64 ((Xm l0_0 x4_1).f2),.int .i64 ((Xm l0_0 x4_1).f3),.int .i64 ((Xm l0_0 x4_1).f4)] 43 (0,0)) (ba_ BK138) hb);have n3_:=Xa.mk (Xc (bl_ HB) hb);clear HO141;clear BK136;clear BK138;clear HB;have HO141:=n0_;have BK136:=n1_;have BK138:=n2_;have HB:=n3_;clear n0_ n1_ n2_ n3_
         (try clear hb)
         (try clear hb2)
         (try clear hk)
         (try clear hi)
         refine hK.out _ _ ⟨(Xd BK138.out 0).trans rfl,(Xd BK138.out 1).trans rfl,(Xd BK138.out 2).trans rfl,(Xd BK138.out 3).trans rfl,(Xd BK138.out 4).trans rfl⟩ (fun hHeld=>?_)
         clear hK K;refine norm_ (a':=?_) ?_ ?_
         rotate_left
         ·show Act.put _ (some 36) _=_
          simp only [Act.put,List.setIfInBounds_toArray,List.set_cons_zero,List.set_cons_succ,Xu,Xt];rfl
         refine Yf (i:=17) (N:=some 37) (v:=?_) (a':=?_) #[true,true,true,true,true,true,true,true,true,true,true,true,true,true,true,true,true,true,false,false] rfl rfl (Ya HT_.out (by kernel_rfl)) (fun _ _ _ h=>h) (Or.inl ⟨by rfl,?_⟩) ?_ ?_
         rotate_left
         ·intro w';go_simp
          with_reducible rfl
         rotate_left
         ·simp only [Act.put,List.setIfInBounds_toArray,List.set_cons_zero,List.set_cons_succ,Xu,Xt];rfl
         refine Yf (i:=18) (N:=some 38) (v:=?_) (a':=?_) #[true,true,true,true,true,true,true,true,true,true,true,true,true,true,true,true,true,true,true,false] rfl rfl (Ya HT_.out (by kernel_rfl)) (fun _ _ _ h=>h) (Or.inl ⟨by rfl,?_⟩) ?_ ?_
         rotate_left
         ·intro w';go_simp
          with_reducible rfl
         rotate_left
         ·simp only [Act.put,List.setIfInBounds_toArray,List.set_cons_zero,List.set_cons_succ,Xu,Xt];rfl
         refine Yf (i:=19) (N:=some 3) (v:=?_) (a':=?_) #[true,true,true,true,true,true,true,true,true,true,true,true,true,true,true,true,true,true,true,true] rfl rfl (Ya HT_.out (by kernel_rfl)) (fun _ _ _ h=>h) (Or.inl ⟨by rfl,?_⟩) ?_ ?_
         rotate_left
         ·intro w';go_simp
          with_reducible rfl
         rotate_left
         ·simp only [Act.put,List.setIfInBounds_toArray,List.set_cons_zero,List.set_cons_succ,Xu,Xt];rfl
         refine done_ (done_of HT_.out (by kernel_rfl)) ?_
         try go_wp2
         go_roundg k1
         case measure=>have:=HK1.out;omega
         case rel=>exact ⟨((((x3_1 ++ t142) ++ t143) ++ t144) ++ (⟨#[10]⟩:ByteArray)),(wrap64 (x4_1+1)),(by first|rfl|(simp;done)|(simp [*];done)),(by first|rfl|(simp;done)|(simp [*];done)),H',⟨by have:=HK1.out;omega⟩,⟨ba_ BK136⟩,⟨bl_ HB⟩⟩
        ·rw [if_neg c11] at H;exact absurd H (by simp)
       ·rw [if_neg c10] at H;exact absurd H (by simp)
      ·rw [if_neg c8] at H;exact absurd H (by simp)
     ·rw [if_neg c6] at H;exact absurd H (by simp)
    ·rw [if_neg c4] at H;exact absurd H (by simp)
   ·rw [if_neg c3] at H;have c3b0:decide (x4_1<(l0_0.length:Int))=false:=decide_eq_false c3;clear c3;replace H:=Option.bind_eq_some_iff.mp H;obtain ⟨t145,A240,H⟩:=H;replace H:(if x3_1.size+t145.size≤9223372036854775807 then ((Yr.f k1 (⟨#[114,111,111,109,115]⟩:ByteArray) l0_2).bind fun t146=>(if (x3_1 ++ t145).size+t146.size≤9223372036854775807 then (Xp.l1 k1 ((x3_1 ++ t145) ++ t146) 0 l0_0 l0_1 l0_2 l0_3 l0_4) else (none))) else (none))=some r:=H;have A24:=Xa.mk A240;clear A240;by_cases c25:x3_1.size+t145.size≤9223372036854775807
    ·rw [if_pos c25] at H;have c25b0:=eq_true c25;have c25b1:decide (x3_1.size+t145.size≤9223372036854775807)=true:=decide_eq_true c25
     try have c25b2:(9223372036854775807<x3_1.size+t145.size)=False:=eq_false (Nat.not_lt.2 c25)
     replace H:=Option.bind_eq_some_iff.mp H;obtain ⟨t146,A260,H⟩:=H;replace H:(if (x3_1 ++ t145).size+t146.size≤9223372036854775807 then (Xp.l1 k1 ((x3_1 ++ t145) ++ t146) 0 l0_0 l0_1 l0_2 l0_3 l0_4) else (none))=some r:=H;have A26:=Xa.mk A260;clear A260;by_cases c27:(x3_1 ++ t145).size+t146.size≤9223372036854775807
     ·rw [if_pos c27] at H;have c27b0:=eq_true c27;have c27b1:decide ((x3_1 ++ t145).size+t146.size≤9223372036854775807)=true:=decide_eq_true c27
      have c27s:(x3_1.size+t145.size)+t146.size≤9223372036854775807:=by have h_:=c27;simp only [ByteArray.size_append] at h_;exact h_
      have c27s0:=eq_true c27s;have c27s1:decide ((x3_1.size+t145.size)+t146.size≤9223372036854775807)=true:=decide_eq_true c27s
      try have c27s2:(9223372036854775807<(x3_1.size+t145.size)+t146.size)=False:=eq_false (Nat.not_lt.2 c27s)
      try have c27b2:(9223372036854775807<(x3_1 ++ t145).size+t146.size)=False:=eq_false (Nat.not_lt.2 c27)
      have H':=Xa.mk H;clear H;obtain ⟨hcz28_0,hcz28_1,hcz28_2,hcz28_3,hcz28_4⟩:=Zm BK136.out;obtain ⟨hfz28_0,hfz28_1,hfz28_2,hfz28_3,hfz28_4⟩:=Zn BK136.out
      try go_wp2
      have n0_:=Xa.mk (Xk BK136.out);have n1_:=Xa.mk (Zt HB.out);clear BK136;clear HB;have BK136:=n0_;have HB:=n1_;clear n0_ n1_;refine start_ (n:=10) (S:=fun w'=>w'.cell? ⟨gb136,0,none⟩=some (.slice A0_0 l0_0.length c0_0)∧w'.cell? ⟨gb136,1,none⟩=some (.slice A0_1 l0_1.length c0_1)∧w'.cell? ⟨gb136,2,none⟩=some (.slice A0_2 l0_2.length c0_2)∧w'.cell? ⟨gb136,3,none⟩=some (.slice A0_3 l0_3.length c0_3)∧w'.cell? ⟨gb136,4,none⟩=some (.slice A0_4 l0_4.length c0_4)) (ds:=[]) #[false,false,false,false,false,false,false,false,false,false] (by kernel_rfl) rfl rfl ⟨(Xd BK136.out 0).trans rfl,(Xd BK136.out 1).trans rfl,(Xd BK136.out 2).trans rfl,(Xd BK136.out 3).trans rfl,(Xd BK136.out 4).trans rfl⟩ (fun hHeld=>?_);refine with_tabW Xp.tab7 Xp.bits7 (fun HT_ HW_=>?_)
      generalize wr.drew=w29 at BK136 HB hHeld ⊢
      refine Yf (i:=0) (N:=some 39) (v:=?_) (a':=?_) #[true,false,false,false,false,false,false,false,false,false] rfl rfl (Ya HT_.out (by kernel_rfl)) (fun _ _ _ h=>h) (Or.inl ⟨by rfl,?_⟩) ?_ ?_
      rotate_left
      ·intro w';go_simp
       with_reducible rfl
      rotate_left
      ·simp only [Act.put,List.setIfInBounds_toArray,List.set_cons_zero,List.set_cons_succ,Xu,Xt];rfl
      refine Yf (i:=1) (N:=some 40) (v:=?_) (a':=?_) #[true,true,false,false,false,false,false,false,false,false] rfl rfl (Ya HT_.out (by kernel_rfl)) (fun _ _ _ h=>h) (Or.inl ⟨by rfl,?_⟩) ?_ ?_
      rotate_left
      ·intro w';go_simp
       with_reducible rfl
      rotate_left
      ·simp only [Act.put,List.setIfInBounds_toArray,List.set_cons_zero,List.set_cons_succ,Xu,Xt];rfl
      refine Yf (i:=5) (N:=some 44) (v:=?_) (a':=?_) #[true,true,false,false,false,true,false,false,false,false] rfl rfl (Ya HT_.out (by kernel_rfl)) (fun _ _ _ h=>h) (Or.inl ⟨by rfl,?_⟩) ?_ ?_
      rotate_left
      ·intro w';go_simp
       with_reducible rfl
      rotate_left
      ·simp only [Act.put,List.setIfInBounds_toArray,List.set_cons_zero,List.set_cons_succ,Xu,Xt];rfl
      refine Zw (i:=2) (N:=some 41) (v:=?_) (a':=?_) #[true,true,true,false,false,true,false,false,false,false] rfl rfl (Zb HT_.out HW_.out (by kernel_rfl)) (fun _ _ _ h=>h) (Or.inl ⟨by rfl,?_⟩) hHeld ?_ ?_
      rotate_left
      ·rintro w' ⟨s0,s1,s2,s3,s4⟩
       go_simp
       with_reducible rfl
      rotate_left
      ·simp only [Act.put,List.setIfInBounds_toArray,List.set_cons_zero,List.set_cons_succ,Xu,Xt];rfl
      refine Zw (i:=6) (N:=some 45) (v:=?_) (a':=?_) #[true,true,true,false,false,true,true,false,false,false] rfl rfl (Zb HT_.out HW_.out (by kernel_rfl)) (fun _ _ _ h=>h) (Or.inl ⟨by rfl,?_⟩) hHeld ?_ ?_
      rotate_left
      ·rintro w' ⟨s0,s1,s2,s3,s4⟩
       go_simp
       with_reducible rfl
      rotate_left
      ·simp only [Act.put,List.setIfInBounds_toArray,List.set_cons_zero,List.set_cons_succ,Xu,Xt];rfl
      refine one_ (i:=3) (N:=some 42) #[true,true,true,true,false,true,true,false,false,false] rfl rfl (Ue HT_.out (by kernel_rfl)) (by decide) (fun K hK=>?_)
      refine goes_ Tryd.func13 (by kernel_rfl) rfl #[.string (⟨#[99,101,108,108,115]⟩:ByteArray),.slice A0_1 l0_1.length c0_1] (by rfl) rfl rfl ga_ ?_
      with_reducible refine (Yr.calls k1 (⟨#[99,101,108,108,115]⟩:ByteArray) _ _ l0_1 t145 _ ?side1 ?side2 A24.out).mono ?_
      (case side1=>repeat (first|exact (Kd.Xl HR0_1.out HB.out)|(with_reducible refine Kd.Xe ?_ _)|(with_reducible refine Kd.Xf ?_ _)|(with_reducible refine Kd.Xn ?_)))
      (case side2=>exact HC0_1.out)
      rintro e w30 ⟨rfl,hb⟩
      refine ⟨_,rfl,?_⟩
      have n0_:=Xa.mk (Xh (g:=gb136) (o:=.cells #[.slice A0_0 l0_0.length c0_0,.slice A0_1 l0_1.length c0_1,.slice A0_2 l0_2.length c0_2,.slice A0_3 l0_3.length c0_3,.slice A0_4 l0_4.length c0_4] 33 (0,0)) (ba_ BK136) hb);have n1_:=Xa.mk (Xc (bl_ HB) hb);clear BK136;clear HB;have BK136:=n0_;have HB:=n1_;clear n0_ n1_
      (try clear hb)
      (try clear hb2)
      (try clear hk)
      (try clear hi)
      refine hK.out _ _ ⟨(Xd BK136.out 0).trans rfl,(Xd BK136.out 1).trans rfl,(Xd BK136.out 2).trans rfl,(Xd BK136.out 3).trans rfl,(Xd BK136.out 4).trans rfl⟩ (fun hHeld=>?_)
      clear hK K;refine norm_ (a':=?_) ?_ ?_
      rotate_left
      ·show Act.put _ (some 42) _=_
       simp only [Act.put,List.setIfInBounds_toArray,List.set_cons_zero,List.set_cons_succ,Xu,Xt];rfl
      refine Yf (i:=4) (N:=some 43) (v:=?_) (a':=?_) #[true,true,true,true,true,true,true,false,false,false] rfl rfl (Ya HT_.out (by kernel_rfl)) (fun _ _ _ h=>h) (Or.inl ⟨by rfl,?_⟩) ?_ ?_
      rotate_left
      ·intro w';go_simp
       with_reducible rfl
      rotate_left
      ·simp only [Act.put,List.setIfInBounds_toArray,List.set_cons_zero,List.set_cons_succ,Xu,Xt];rfl
      refine one_ (i:=7) (N:=some 46) #[true,true,true,true,true,true,true,true,false,false] rfl rfl (Ue HT_.out (by kernel_rfl)) (by decide) (fun K hK=>?_)
      refine goes_ Tryd.func13 (by kernel_rfl) rfl #[.string (⟨#[114,111,111,109,115]⟩:ByteArray),.slice A0_2 l0_2.length c0_2] (by rfl) rfl rfl ga_ ?_
      with_reducible refine (Yr.calls k1 (⟨#[114,111,111,109,115]⟩:ByteArray) _ _ l0_2 t146 _ ?side1 ?side2 A26.out).mono ?_
      (case side1=>repeat (first|exact (Kd.Xl HR0_2.out HB.out)|(with_reducible refine Kd.Xe ?_ _)|(with_reducible refine Kd.Xf ?_ _)|(with_reducible refine Kd.Xn ?_)))
      (case side2=>exact HC0_2.out)
      rintro e w31 ⟨rfl,hb⟩
      refine ⟨_,rfl,?_⟩
      have n0_:=Xa.mk (Xh (g:=gb136) (o:=.cells #[.slice A0_0 l0_0.length c0_0,.slice A0_1 l0_1.length c0_1,.slice A0_2 l0_2.length c0_2,.slice A0_3 l0_3.length c0_3,.slice A0_4 l0_4.length c0_4] 33 (0,0)) (ba_ BK136) hb);have n1_:=Xa.mk (Xc (bl_ HB) hb);clear BK136;clear HB;have BK136:=n0_;have HB:=n1_;clear n0_ n1_
      (try clear hb)
      (try clear hb2)
      (try clear hk)
      (try clear hi)
      refine hK.out _ _ ⟨(Xd BK136.out 0).trans rfl,(Xd BK136.out 1).trans rfl,(Xd BK136.out 2).trans rfl,(Xd BK136.out 3).trans rfl,(Xd BK136.out 4).trans rfl⟩ (fun hHeld=>?_)
      clear hK K;refine norm_ (a':=?_) ?_ ?_
      rotate_left
      ·show Act.put _ (some 46) _=_
       simp only [Act.put,List.setIfInBounds_toArray,List.set_cons_zero,List.set_cons_succ,Xu,Xt];rfl
      refine Yf (i:=8) (N:=some 47) (v:=?_) (a':=?_) #[true,true,true,true,true,true,true,true,true,false] rfl rfl (Ya HT_.out (by kernel_rfl)) (fun _ _ _ h=>h) (Or.inl ⟨by rfl,?_⟩) ?_ ?_
      rotate_left
      ·intro w';go_simp
       with_reducible rfl
      rotate_left
      ·simp only [Act.put,List.setIfInBounds_toArray,List.set_cons_zero,List.set_cons_succ,Xu,Xt];rfl
      refine Yf (i:=9) (N:=some 3) (v:=?_) (a':=?_) #[true,true,true,true,true,true,true,true,true,true] rfl rfl (Ya HT_.out (by kernel_rfl)) (fun _ _ _ h=>h) (Or.inl ⟨by rfl,?_⟩) ?_ ?_
      rotate_left
      ·intro w';go_simp
       with_reducible rfl
      rotate_left
      ·simp only [Act.put,List.setIfInBounds_toArray,List.set_cons_zero,List.set_cons_succ,Xu,Xt];rfl
      refine done_ (done_of HT_.out (by kernel_rfl)) ?_
      try go_wp2
      go_loopg [3,6] k1 (fun kq v3 v6 w'=>∃ (x3_2:ByteArray) (x6_2:Int),v3=.string x3_2∧v6=.int .i64 x6_2∧Xa (Xp.l1 kq x3_2 x6_2 l0_0 l0_1 l0_2 l0_3 l0_4=some r)∧Xa (kq≤k1)∧Xa (w'.heap[gb136]?=some (.cells #[(.slice A0_0 l0_0.length c0_0),(.slice A0_1 l0_1.length c0_1),(.slice A0_2 l0_2.length c0_2),(.slice A0_3 l0_3.length c0_3),(.slice A0_4 l0_4.length c0_4)] 33 (0,0)))∧Xa (Below w.heap.size w w'))
      case atStart=>exact ⟨((x3_1 ++ t145) ++ t146),(0),(by first|rfl|(simp;done)|(simp [*];done)),(by first|rfl|(simp;done)|(simp [*];done)),H',⟨Nat.le_refl _⟩,⟨ba_ BK136⟩,⟨bl_ HB⟩⟩
      case round=>
       clear H'
       try clear c1
       try clear p1
       try clear q1
       try clear hx1
       try clear c2
       try clear p2
       try clear c3
       try clear c3b0
       try clear c4
       try clear c4b0
       try clear c5
       try clear c6
       try clear c6b0
       try clear c6b1
       try clear c6b2
       try clear p6
       try clear c8
       try clear c8b0
       try clear c8b1
       try clear c8b2
       try clear c10
       try clear c10b0
       try clear c10b1
       try clear c10b2
       try clear c11
       try clear c11b0
       try clear c11b1
       try clear c11b2
       try clear c13
       try clear p13
       try clear q13
       try clear hx13
       try clear c14
       try clear c25
       try clear c25b0
       try clear c25b1
       try clear c25b2
       try clear c27
       try clear c27b0
       try clear c27b1
       try clear c27b2
       try clear hcz12_0
       try clear hcz12_1
       try clear hcz12_2
       try clear hcz12_3
       try clear hcz12_4
       try clear hcz15_0
       try clear hcz15_1
       try clear hcz15_2
       try clear hcz15_3
       try clear hcz15_4
       try clear hcz28_0
       try clear hcz28_1
       try clear hcz28_2
       try clear hcz28_3
       try clear hcz28_4
       try clear hfz12_0
       try clear hfz12_1
       try clear hfz12_2
       try clear hfz12_3
       try clear hfz12_4
       try clear hfz15_0
       try clear hfz15_1
       try clear hfz15_2
       try clear hfz15_3
       try clear hfz15_4
       try clear hfz28_0
       try clear hfz28_1
       try clear hfz28_2
       try clear hfz28_3
       try clear hfz28_4
       try clear hx137_0
       try clear hx137_1
       try clear hx137_2
       try clear hx137_3
       try clear hx137_4
       try clear p137
       try clear p2
       try clear q137
       obtain ⟨x3_2,x6_2,rfl,rfl,HA,HK2,BK136,HB⟩:=hrel
       cases gk with
       |zero=>exact absurd HA.out (by simp [Xp.l1])
       |succ k2=>
        have H:=HA.out;clear HA;simp only [Xp.l1] at H;by_cases c32:x6_2<(l0_3.length:Int)
        ·rw [if_pos c32] at H;have c32b0:decide (x6_2<(l0_3.length:Int))=true:=decide_eq_true c32;clear c32;by_cases c33:0≤x6_2
         ·rw [if_pos c33] at H;have c33b0:decide (0≤x6_2)=true:=decide_eq_true c33;clear c33;replace H:=Option.bind_eq_some_iff.mp H;obtain ⟨t148,A340,H⟩:=H;replace H:(if x3_2.size+t148.size≤9223372036854775807 then (Xp.l1 k2 (x3_2 ++ t148) (wrap64 (x6_2+1)) l0_0 l0_1 l0_2 l0_3 l0_4) else (none))=some r:=H;have A34:=Xa.mk A340;clear A340;by_cases c35:x3_2.size+t148.size≤9223372036854775807
          ·rw [if_pos c35] at H;have c35b0:=eq_true c35;have c35b1:decide (x3_2.size+t148.size≤9223372036854775807)=true:=decide_eq_true c35
           try have c35b2:(9223372036854775807<x3_2.size+t148.size)=False:=eq_false (Nat.not_lt.2 c35)
           have H':=Xa.mk H;clear H;obtain ⟨hcz36_0,hcz36_1,hcz36_2,hcz36_3,hcz36_4⟩:=Zm BK136.out;obtain ⟨hfz36_0,hfz36_1,hfz36_2,hfz36_3,hfz36_4⟩:=Zn BK136.out;have p147:0≤(x6_2:Int):=of_decide_eq_true (by first|(with_reducible assumption)|assumption);have q147:x6_2<(l0_3.length:Int):=of_decide_eq_true (by first|(with_reducible assumption)|assumption);obtain ⟨ad147,A147_0,c147_0,e147,hx147_0,hl147_0,hi147_0⟩:=at_L2 HR0_3.out x6_2 p147 q147;cases e147
           replace hx147_0:=(HB.out.cell (World.block_lt_of_cell? w _ hx147_0)).trans hx147_0;have HR147_0:=Xa.mk hi147_0;have HC147_0:=Xa.mk hl147_0;clear hi147_0 hl147_0;replace p147:=eq_true p147;replace q147:=eq_true q147;go_wp2_with (first|((with_reducible refine Xo (f:=13) rfl ?_);refine Ye (some 61) rfl rfl Tryd.func13 (by kernel_rfl) rfl #[.string (⟨#[115,105,103,110]⟩:ByteArray),.slice A147_0 (rd_L2 l0_3 x6_2).length c147_0] rfl ga_ ?_;(with_reducible refine (Yr.calls k2 (⟨#[115,105,103,110]⟩:ByteArray) _ _ (rd_L2 l0_3 x6_2) t148 _ ?side1 ?side2 A34.out).mono ?_);(case side1=>repeat (first|exact (Kd.Xl HR147_0.out HB.out)|(with_reducible refine Kd.Xe ?_ _)|(with_reducible refine Kd.Xf ?_ _)|(with_reducible refine Kd.Xn ?_)));(case side2=>exact HC147_0.out);rintro e w37 ⟨rfl,hb⟩;refine ⟨_,rfl,?_⟩;have n0_:=Xa.mk (Xh (g:=gb136) (o:=.cells #[.slice A0_0 l0_0.length c0_0,.slice A0_1 l0_1.length c0_1,.slice A0_2 l0_2.length c0_2,.slice (some ad147) l0_3.length c0_3,.slice A0_4 l0_4.length c0_4] 33 (0,0)) (ba_ BK136) hb);have n1_:=Xa.mk (Xc (bl_ HB) hb);clear BK136;clear HB;have BK136:=n0_;have HB:=n1_;clear n0_ n1_;(try clear hb);(try clear hb2);(try clear hk);(try clear hi)))
           go_roundg k2
           case measure=>have:=HK1.out;have:=HK2.out;omega
           case rel=>exact ⟨(x3_2 ++ t148),(wrap64 (x6_2+1)),(by first|rfl|(simp;done)|(simp [*];done)),(by first|rfl|(simp;done)|(simp [*];done)),H',⟨by have:=HK1.out;have:=HK2.out;omega⟩,⟨ba_ BK136⟩,⟨bl_ HB⟩⟩
          ·rw [if_neg c35] at H;exact absurd H (by simp)
         ·rw [if_neg c33] at H;exact absurd H (by simp)
        ·rw [if_neg c32] at H;have c32b0:decide (x6_2<(l0_3.length:Int))=false:=decide_eq_false c32;clear c32;have H':=Xa.mk H;clear H;obtain ⟨hcz38_0,hcz38_1,hcz38_2,hcz38_3,hcz38_4⟩:=Zm BK136.out;obtain ⟨hfz38_0,hfz38_1,hfz38_2,hfz38_3,hfz38_4⟩:=Zn BK136.out;go_wp2
         go_loopg [3,7] k2 (fun kq v3 v7 w'=>∃ (x3_3:ByteArray) (x7_3:Int),v3=.string x3_3∧v7=.int .i64 x7_3∧Xa (Xp.l2 kq x3_3 x7_3 l0_0 l0_1 l0_2 l0_3 l0_4=some r)∧Xa (kq≤k2)∧Xa (w'.heap[gb136]?=some (.cells #[(.slice A0_0 l0_0.length c0_0),(.slice A0_1 l0_1.length c0_1),(.slice A0_2 l0_2.length c0_2),(.slice A0_3 l0_3.length c0_3),(.slice A0_4 l0_4.length c0_4)] 33 (0,0)))∧Xa (Below w.heap.size w w'))
         case atStart=>exact ⟨(x3_2),(0),(by first|rfl|(simp;done)|(simp [*];done)),(by first|rfl|(simp;done)|(simp [*];done)),H',⟨Nat.le_refl _⟩,⟨ba_ BK136⟩,⟨bl_ HB⟩⟩
         case round=>
          clear H'
          try clear c1
          try clear p1
          try clear q1
          try clear hx1
          try clear c2
          try clear p2
          try clear c3
          try clear c3b0
          try clear c4
          try clear c4b0
          try clear c5
          try clear c6
          try clear c6b0
          try clear c6b1
          try clear c6b2
          try clear p6
          try clear c8
          try clear c8b0
          try clear c8b1
          try clear c8b2
          try clear c10
          try clear c10b0
          try clear c10b1
          try clear c10b2
          try clear c11
          try clear c11b0
          try clear c11b1
          try clear c11b2
          try clear c13
          try clear p13
          try clear q13
          try clear hx13
          try clear c14
          try clear p14
          try clear q14
          try clear hx14
          try clear c25
          try clear c25b0
          try clear c25b1
          try clear c25b2
          try clear c27
          try clear c27b0
          try clear c27b1
          try clear c27b2
          try clear c32
          try clear c32b0
          try clear c33
          try clear c33b0
          try clear c35
          try clear c35b0
          try clear c35b1
          try clear c35b2
          try clear hcz12_0
          try clear hcz12_1
          try clear hcz12_2
          try clear hcz12_3
          try clear hcz12_4
          try clear hcz15_0
          try clear hcz15_1
          try clear hcz15_2
          try clear hcz15_3
          try clear hcz15_4
          try clear hcz28_0
          try clear hcz28_1
          try clear hcz28_2
          try clear hcz28_3
          try clear hcz28_4
          try clear hcz36_0
          try clear hcz36_1
          try clear hcz36_2
          try clear hcz36_3
          try clear hcz36_4
          try clear hcz38_0
          try clear hcz38_1
          try clear hcz38_2
          try clear hcz38_3
          try clear hcz38_4
          try clear hfz12_0
          try clear hfz12_1
          try clear hfz12_2
          try clear hfz12_3
          try clear hfz12_4
          try clear hfz15_0
          try clear hfz15_1
          try clear hfz15_2
          try clear hfz15_3
          try clear hfz15_4
          try clear hfz28_0
          try clear hfz28_1
          try clear hfz28_2
          try clear hfz28_3
          try clear hfz28_4
          try clear hfz36_0
          try clear hfz36_1
          try clear hfz36_2
          try clear hfz36_3
          try clear hfz36_4
          try clear hfz38_0
          try clear hfz38_1
          try clear hfz38_2
          try clear hfz38_3
          try clear hfz38_4
          try clear hx137_0
          try clear hx137_1
          try clear hx137_2
          try clear hx137_3
          try clear hx137_4
          try clear hx147_0
          try clear p1
          try clear p13
          try clear p137
          try clear p147
          try clear p2
          try clear p6
          try clear q1
          try clear q13
          try clear q137
          try clear q147
          obtain ⟨x3_3,x7_3,rfl,rfl,HA,HK3,BK136,HB⟩:=hrel
          cases gk with
          |zero=>exact absurd HA.out (by simp [Xp.l2])
          |succ k3=>
           have H:=HA.out;clear HA;simp only [Xp.l2] at H;by_cases c39:x7_3<(l0_4.length:Int)
           ·rw [if_pos c39] at H;have c39b0:decide (x7_3<(l0_4.length:Int))=true:=decide_eq_true c39;clear c39;by_cases c40:0≤x7_3
            ·rw [if_pos c40] at H;have c40b0:decide (0≤x7_3)=true:=decide_eq_true c40;clear c40;obtain ⟨y151,hy151⟩:∃ y_:List Int,y_=(([(Yx l0_4 x7_3).f0,(Yx l0_4 x7_3).f1]:List Int)):=⟨_,rfl⟩
             replace H:((Yr.f k3 (⟨#[115,97,105,100]⟩:ByteArray) y151).bind fun t154=>(if x3_3.size+t154.size≤9223372036854775807 then (Xp.l2 k3 (x3_3 ++ t154) (wrap64 (x7_3+1)) l0_0 l0_1 l0_2 l0_3 l0_4) else (none)))=some r:=by subst hy151;first|with_reducible exact H|(have z:=(Option.bind_some _ _).symm.trans H;with_reducible exact z)|exact H
             have Ny151:=Xa.mk hy151;clear hy151;replace H:=Option.bind_eq_some_iff.mp H;obtain ⟨t154,A410,H⟩:=H;replace H:(if x3_3.size+t154.size≤9223372036854775807 then (Xp.l2 k3 (x3_3 ++ t154) (wrap64 (x7_3+1)) l0_0 l0_1 l0_2 l0_3 l0_4) else (none))=some r:=H;have A41:=Xa.mk A410;clear A410;by_cases c42:x3_3.size+t154.size≤9223372036854775807
             ·rw [if_pos c42] at H;have c42b0:=eq_true c42;have c42b1:decide (x3_3.size+t154.size≤9223372036854775807)=true:=decide_eq_true c42
              try have c42b2:(9223372036854775807<x3_3.size+t154.size)=False:=eq_false (Nat.not_lt.2 c42)
              have H':=Xa.mk H;clear H;obtain ⟨hcz43_0,hcz43_1,hcz43_2,hcz43_3,hcz43_4⟩:=Zm BK136.out;obtain ⟨hfz43_0,hfz43_1,hfz43_2,hfz43_3,hfz43_4⟩:=Zn BK136.out
              try go_wp2
              have n0_:=Xa.mk (Xk BK136.out);have n1_:=Xa.mk (Zt HB.out);clear BK136;clear HB;have BK136:=n0_;have HB:=n1_;clear n0_ n1_;have p149:0≤(x7_3:Int):=of_decide_eq_true (by first|(with_reducible assumption)|assumption);have q149:x7_3<(l0_4.length:Int):=of_decide_eq_true (by first|(with_reducible assumption)|assumption);obtain ⟨ad149,e149,hx149_0,hx149_1⟩:=at_T47 HR0_4.out x7_3 p149 q149;have hw149_1:=hx149_1;have hw149_0:=hx149_0;cases e149
              replace hx149_0:=(HB.out.cell (World.block_lt_of_cell? w _ hx149_0)).trans hx149_0;replace hx149_1:=(HB.out.cell (World.block_lt_of_cell? w _ hx149_1)).trans hx149_1;replace p149:=eq_true p149;replace q149:=eq_true q149;have p150:0≤(x7_3:Int):=of_decide_eq_true (by first|(with_reducible assumption)|assumption);have q150:x7_3<(l0_4.length:Int):=of_decide_eq_true (by first|(with_reducible assumption)|assumption);obtain ⟨ad150,e150,hx150_0,hx150_1⟩:=at_T47 HR0_4.out x7_3 p150 q150;have hw150_1:=hx150_1;have hw150_0:=hx150_0;obtain rfl:ad149=ad150:=(by injection e150);replace hx150_0:=(HB.out.cell (World.block_lt_of_cell? w _ hx150_0)).trans hx150_0;replace hx150_1:=(HB.out.cell (World.block_lt_of_cell? w _ hx150_1)).trans hx150_1;replace p150:=eq_true p150;replace q150:=eq_true q150;refine start_ (n:=17) (S:=fun w'=>w'.cell? ⟨gb136,0,none⟩=some (.slice A0_0 l0_0.length c0_0)∧w'.cell? ⟨gb136,1,none⟩=some (.slice A0_1 l0_1.length c0_1)∧w'.cell? ⟨gb136,2,none⟩=some (.slice A0_2 l0_2.length c0_2)∧w'.cell? ⟨gb136,3,none⟩=some (.slice A0_3 l0_3.length c0_3)∧w'.cell? ⟨gb136,4,none⟩=some (.slice (some ad149) l0_4.length c0_4)∧w'.cell? (ad149.add ((x7_3).toNat * 2))=some (.int .i64 ((Yx l0_4 x7_3).f0))∧w'.cell? ⟨(ad149.add ((x7_3).toNat * 2)).block,(ad149.add ((x7_3).toNat * 2)).off+1,none⟩=some (.int .i64 ((Yx l0_4 x7_3).f1))∧w'.cell? (ad149.add ((x7_3).toNat * 2))=some (.int .i64 ((Yx l0_4 x7_3).f0))∧w'.cell? ⟨(ad149.add ((x7_3).toNat * 2)).block,(ad149.add ((x7_3).toNat * 2)).off+1,none⟩=some (.int .i64 ((Yx l0_4 x7_3).f1))) (ds:=[]) #[false,false,false,false,false,false,false,false,false,false,false,false,false,false,false,false,false] (by kernel_rfl) rfl rfl ⟨(Xd BK136.out 0).trans rfl,(Xd BK136.out 1).trans rfl,(Xd BK136.out 2).trans rfl,(Xd BK136.out 3).trans rfl,(Xd BK136.out 4).trans rfl,((HB.out.cell (World.block_lt_of_cell? w _ hw149_0)).trans hw149_0),((HB.out.cell (World.block_lt_of_cell? w _ hw149_1)).trans hw149_1),((HB.out.cell (World.block_lt_of_cell? w _ hw150_0)).trans hw150_0),((HB.out.cell (World.block_lt_of_cell? w _ hw150_1)).trans hw150_1)⟩ (fun hHeld=>?_);refine with_tabW Xp.tab15 Xp.bits15 (fun HT_ HW_=>?_)
              generalize wr.drew=w44 at BK136 HB hx149_0 hx149_1 hx150_0 hx150_1 hHeld ⊢
              refine Yf (i:=0) (N:=some 70) (v:=?_) (a':=?_) #[true,false,false,false,false,false,false,false,false,false,false,false,false,false,false,false,false] rfl rfl (Ya HT_.out (by kernel_rfl)) (fun _ _ _ h=>h) (Or.inl ⟨by rfl,?_⟩) ?_ ?_
              rotate_left
              ·intro w';go_simp
               with_reducible rfl
              rotate_left
              ·simp only [Act.put,List.setIfInBounds_toArray,List.set_cons_zero,List.set_cons_succ,Xu,Xt];rfl
              refine Yf (i:=1) (N:=some 71) (v:=?_) (a':=?_) #[true,true,false,false,false,false,false,false,false,false,false,false,false,false,false,false,false] rfl rfl (Ya HT_.out (by kernel_rfl)) (fun _ _ _ h=>h) (Or.inl ⟨by rfl,?_⟩) ?_ ?_
              rotate_left
              ·intro w';go_simp
               with_reducible rfl
              rotate_left
              ·simp only [Act.put,List.setIfInBounds_toArray,List.set_cons_zero,List.set_cons_succ,Xu,Xt];rfl
              refine Yf (i:=3) (N:=some 73) (v:=?_) (a':=?_) #[true,true,false,true,false,false,false,false,false,false,false,false,false,false,false,false,false] rfl rfl (Ya HT_.out (by kernel_rfl)) (fun _ _ _ h=>h) (Or.inl ⟨by rfl,?_⟩) ?_ ?_
              rotate_left
              ·intro w';go_simp
               with_reducible rfl
              rotate_left
              ·simp only [Act.put,List.setIfInBounds_toArray,List.set_cons_zero,List.set_cons_succ,Xu,Xt];rfl
              refine Yf (i:=7) (N:=some 77) (v:=?_) (a':=?_) #[true,true,false,true,false,false,false,true,false,false,false,false,false,false,false,false,false] rfl rfl (Ya HT_.out (by kernel_rfl)) (fun _ _ _ h=>h) (Or.inl ⟨by rfl,?_⟩) ?_ ?_
              rotate_left
              ·intro w';go_simp
               with_reducible rfl
              rotate_left
              ·simp only [Act.put,List.setIfInBounds_toArray,List.set_cons_zero,List.set_cons_succ,Xu,Xt];rfl
              refine Yf (i:=9) (N:=some 79) (v:=?_) (a':=?_) #[true,true,false,true,false,false,false,true,false,true,false,false,false,false,false,false,false] rfl rfl (Ya HT_.out (by kernel_rfl)) (fun _ _ _ h=>h) (Or.inl ⟨by rfl,?_⟩) ?_ ?_
              rotate_left
              ·intro w';go_simp
               with_reducible rfl
              rotate_left
              ·simp only [Act.put,List.setIfInBounds_toArray,List.set_cons_zero,List.set_cons_succ,Xu,Xt];rfl
              refine Zw (i:=2) (N:=some 72) (v:=?_) (a':=?_) #[true,true,true,true,false,false,false,true,false,true,false,false,false,false,false,false,false] rfl rfl (Zb HT_.out HW_.out (by kernel_rfl)) (fun _ _ _ h=>h) (Or.inl ⟨by rfl,?_⟩) hHeld ?_ ?_
              rotate_left
              ·rintro w' ⟨s0,s1,s2,s3,s4,s5,s6,s7,s8⟩
               go_simp
               with_reducible rfl
              rotate_left
              ·simp only [Act.put,List.setIfInBounds_toArray,List.set_cons_zero,List.set_cons_succ,Xu,Xt];rfl
              refine Yf (i:=4) (N:=some 74) (v:=?_) (a':=?_) #[true,true,true,true,true,false,false,true,false,true,false,false,false,false,false,false,false] rfl rfl (Ya HT_.out (by kernel_rfl)) (fun _ _ _ h=>h) (Or.inl ⟨by rfl,?_⟩) ?_ ?_
              rotate_left
              ·intro w';go_simp
               with_reducible rfl
              rotate_left
              ·simp only [Act.put,List.setIfInBounds_toArray,List.set_cons_zero,List.set_cons_succ,Xu,Xt];rfl
              refine Yf (i:=5) (N:=some 75) (v:=?_) (a':=?_) #[true,true,true,true,true,true,false,true,false,true,false,false,false,false,false,false,false] rfl rfl (Ya HT_.out (by kernel_rfl)) (fun _ _ _ h=>h) (Or.inl ⟨by rfl,?_⟩) ?_ ?_
              rotate_left
              ·intro w';go_simp
               with_reducible rfl
              rotate_left
              ·simp only [Act.put,List.setIfInBounds_toArray,List.set_cons_zero,List.set_cons_succ,Xu,Xt];rfl
              refine Zw (i:=6) (N:=some 76) (v:=?_) (a':=?_) #[true,true,true,true,true,true,true,true,false,true,false,false,false,false,false,false,false] rfl rfl (Zb HT_.out HW_.out (by kernel_rfl)) (fun _ _ _ h=>h) (Or.inl ⟨by rfl,?_⟩) hHeld ?_ ?_
              rotate_left
              ·rintro w' ⟨s0,s1,s2,s3,s4,s5,s6,s7,s8⟩
               go_simp
               with_reducible rfl
              rotate_left
              ·simp only [Act.put,List.setIfInBounds_toArray,List.set_cons_zero,List.set_cons_succ,Xu,Xt];rfl
              refine Zw (i:=8) (N:=some 78) (v:=?_) (a':=?_) #[true,true,true,true,true,true,true,true,true,true,false,false,false,false,false,false,false] rfl rfl (Zb HT_.out HW_.out (by kernel_rfl)) (fun _ _ _ h=>h) (Or.inl ⟨by rfl,?_⟩) hHeld ?_ ?_
              rotate_left
              ·rintro w' ⟨s0,s1,s2,s3,s4,s5,s6,s7,s8⟩
               go_simp
               with_reducible rfl
              rotate_left
              ·simp only [Act.put,List.setIfInBounds_toArray,List.set_cons_zero,List.set_cons_succ,Xu,Xt];rfl
              refine Yf (i:=10) (N:=some 80) (v:=?_) (a':=?_) #[true,true,true,true,true,true,true,true,true,true,true,false,false,false,false,false,false] rfl rfl (Ya HT_.out (by kernel_rfl)) (fun _ _ _ h=>h) (Or.inl ⟨by rfl,?_⟩) ?_ ?_
              rotate_left
              ·intro w';go_simp
               with_reducible rfl
              rotate_left
              ·simp only [Act.put,List.setIfInBounds_toArray,List.set_cons_zero,List.set_cons_succ,Xu,Xt];rfl
              refine Yf (i:=11) (N:=some 81) (v:=?_) (a':=?_) #[true,true,true,true,true,true,true,true,true,true,true,true,false,false,false,false,false] rfl rfl (Ya HT_.out (by kernel_rfl)) (fun _ _ _ h=>h) (Or.inl ⟨by rfl,?_⟩) ?_ ?_
              rotate_left
              ·intro w';go_simp
               with_reducible rfl
              rotate_left
              ·simp only [Act.put,List.setIfInBounds_toArray,List.set_cons_zero,List.set_cons_succ,Xu,Xt];rfl
              refine Zw (i:=12) (N:=some 82) (v:=?_) (a':=?_) #[true,true,true,true,true,true,true,true,true,true,true,true,true,false,false,false,false] rfl rfl (Zb HT_.out HW_.out (by kernel_rfl)) (fun _ _ _ h=>h) (Or.inl ⟨by rfl,?_⟩) hHeld ?_ ?_
              rotate_left
              ·rintro w' ⟨s0,s1,s2,s3,s4,s5,s6,s7,s8⟩
               go_simp
               with_reducible rfl
              rotate_left
              ·simp only [Act.put,List.setIfInBounds_toArray,List.set_cons_zero,List.set_cons_succ,Xu,Xt];rfl
              refine one_ (i:=13) (N:=some 83) #[true,true,true,true,true,true,true,true,true,true,true,true,true,true,false,false,false] rfl rfl (Ue HT_.out (by kernel_rfl)) (by decide) (fun K hK=>?_)
              refine Kd.R_lit_step (Kd.int .i64) _ 3 ?hg (N:=83) ?hd (xs:=([(Yx l0_4 x7_3).f0,(Yx l0_4 x7_3).f1]:List Int)) (inner:=[.int .i64 ((Yx l0_4 x7_3).f0),.int .i64 ((Yx l0_4 x7_3).f1)]) (ok:=fun _=>True) (okp:=fun _=>True) ?hr ?hp (fun _ hk=>hk) trivial (Below.refl _ _) (Nat.le_refl _) (by simp) ?_;(case hd=>rfl);(case hg=>rfl);(case hr=>first|(go_simp;done)|(go_simp;rfl));(case hp=>exact (Zp.one (show Kd.M (Kd.int .i64) _ _ _ ((Yx l0_4 x7_3).f0) [.int .i64 ((Yx l0_4 x7_3).f0)] from rfl) (Zp.one (show Kd.M (Kd.int .i64) _ _ _ ((Yx l0_4 x7_3).f1) [.int .i64 ((Yx l0_4 x7_3).f1)] from rfl) (Zp.none _ _))))
              intro v152 w45 ho46 hb hg_ hnew_;clear hg_ hnew_
              (first|rw [← Ny151.out] at ho46|(simp only [Int.reduceToNat] at ho46;rw [← Ny151.out] at ho46))
              have n0_:=Xa.mk (Kd.Yt ho46 (Xb (bl_ HB)));have n1_:=Xa.mk (Xh (g:=gb136) (o:=.cells #[.slice A0_0 l0_0.length c0_0,.slice A0_1 l0_1.length c0_1,.slice A0_2 l0_2.length c0_2,.slice A0_3 l0_3.length c0_3,.slice (some ad149) l0_4.length c0_4] 33 (0,0)) (ba_ BK136) hb);have n2_:=Xa.mk (Xc (bl_ HB) hb);clear BK136;clear HB;have HO153:=n0_;have BK136:=n1_;have HB:=n2_;clear n0_ n1_ n2_;clear hb ho46;obtain ⟨Ao47,co47,eo47⟩:=Kd.Yz HO153.out
              (first|subst eo47|(injection eo47 with f1_ f2_ f3_;have f4_:=f1_.symm;have f5_:=f3_.symm;clear f1_ f2_ f3_;subst f4_;subst f5_))
              refine hK.out _ _ ⟨(Xd BK136.out 0).trans rfl,(Xd BK136.out 1).trans rfl,(Xd BK136.out 2).trans rfl,(Xd BK136.out 3).trans rfl,(Xd BK136.out 4).trans rfl,((HB.out.cell (World.block_lt_of_cell? w _ hw149_0)).trans hw149_0),((HB.out.cell (World.block_lt_of_cell? w _ hw149_1)).trans hw149_1),((HB.out.cell (World.block_lt_of_cell? w _ hw150_0)).trans hw150_0),((HB.out.cell (World.block_lt_of_cell? w _ hw150_1)).trans hw150_1)⟩ (fun hHeld=>?_)
              clear hK K;refine norm_ (a':=?_) ?_ ?_
              rotate_left
              ·show Act.put _ (some 83) _=_
               simp only [Act.put,List.setIfInBounds_toArray,List.set_cons_zero,List.set_cons_succ,Xu,Xt];rfl
              refine one_ (i:=14) (N:=some 84) #[true,true,true,true,true,true,true,true,true,true,true,true,true,true,true,false,false] rfl rfl (Ue HT_.out (by kernel_rfl)) (by decide) (fun K hK=>?_)
              refine goes_ Tryd.func13 (by kernel_rfl) rfl #[.string (⟨#[115,97,105,100]⟩:ByteArray),.slice Ao47 y151.length co47] (by rfl) rfl rfl ga_ ?_
              with_reducible refine (Yr.calls k3 (⟨#[115,97,105,100]⟩:ByteArray) _ _ y151 t154 _ ?side1 ?side2 A41.out).mono ?_
              (case side1=>repeat (first|exact (Kd.R_reads' HO153.out).2.2|(with_reducible refine Kd.Xe ?_ _)|(with_reducible refine Kd.Xf ?_ _)|(with_reducible refine Kd.Xn ?_)))
              (case side2=>exact (Kd.R_reads' HO153.out).2.1)
              rintro e w48 ⟨rfl,hb⟩
              refine ⟨_,rfl,?_⟩
              have n0_:=Xa.mk (Kd.Xx (Kd.ra_ (HO153.out)) hb);have n1_:=Xa.mk (Xh (g:=gb136) (o:=.cells #[.slice A0_0 l0_0.length c0_0,.slice A0_1 l0_1.length c0_1,.slice A0_2 l0_2.length c0_2,.slice A0_3 l0_3.length c0_3,.slice (some ad149) l0_4.length c0_4] 33 (0,0)) (ba_ BK136) hb);have n2_:=Xa.mk (Xc (bl_ HB) hb);clear HO153;clear BK136;clear HB;have HO153:=n0_;have BK136:=n1_;have HB:=n2_;clear n0_ n1_ n2_
              (try clear hb)
              (try clear hb2)
              (try clear hk)
              (try clear hi)
              refine hK.out _ _ ⟨(Xd BK136.out 0).trans rfl,(Xd BK136.out 1).trans rfl,(Xd BK136.out 2).trans rfl,(Xd BK136.out 3).trans rfl,(Xd BK136.out 4).trans rfl,((HB.out.cell (World.block_lt_of_cell? w _ hw149_0)).trans hw149_0),((HB.out.cell (World.block_lt_of_cell? w _ hw149_1)).trans hw149_1),((HB.out.cell (World.block_lt_of_cell? w _ hw150_0)).trans hw150_0),((HB.out.cell (World.block_lt_of_cell? w _ hw150_1)).trans hw150_1)⟩ (fun hHeld=>?_)
              clear hK K;refine norm_ (a':=?_) ?_ ?_
              rotate_left
              ·show Act.put _ (some 84) _=_
               simp only [Act.put,List.setIfInBounds_toArray,List.set_cons_zero,List.set_cons_succ,Xu,Xt];rfl
              refine Yf (i:=15) (N:=some 85) (v:=?_) (a':=?_) #[true,true,true,true,true,true,true,true,true,true,true,true,true,true,true,true,false] rfl rfl (Ya HT_.out (by kernel_rfl)) (fun _ _ _ h=>h) (Or.inl ⟨by rfl,?_⟩) ?_ ?_
              rotate_left
              ·intro w';go_simp
               with_reducible rfl
              rotate_left
              ·simp only [Act.put,List.setIfInBounds_toArray,List.set_cons_zero,List.set_cons_succ,Xu,Xt];rfl
              refine Yf (i:=16) (N:=some 3) (v:=?_) (a':=?_) #[true,true,true,true,true,true,true,true,true,true,true,true,true,true,true,true,true] rfl rfl (Ya HT_.out (by kernel_rfl)) (fun _ _ _ h=>h) (Or.inl ⟨by rfl,?_⟩) ?_ ?_
              rotate_left
              ·intro w';go_simp
               with_reducible rfl
              rotate_left
              ·simp only [Act.put,List.setIfInBounds_toArray,List.set_cons_zero,List.set_cons_succ,Xu,Xt];rfl
              refine done_ (done_of HT_.out (by kernel_rfl)) ?_
              try go_wp2
              go_roundg k3
              case measure=>have:=HK1.out;have:=HK2.out;have:=HK3.out;omega
              case rel=>exact ⟨(x3_3 ++ t154),(wrap64 (x7_3+1)),(by first|rfl|(simp;done)|(simp [*];done)),(by first|rfl|(simp;done)|(simp [*];done)),H',⟨by have:=HK1.out;have:=HK2.out;have:=HK3.out;omega⟩,⟨ba_ BK136⟩,⟨bl_ HB⟩⟩
             ·rw [if_neg c42] at H;exact absurd H (by simp)
            ·rw [if_neg c40] at H;exact absurd H (by simp)
           ·rw [if_neg c39] at H;have c39b0:decide (x7_3<(l0_4.length:Int))=false:=decide_eq_false c39;clear c39;obtain rfl:=Option.some.inj H;obtain ⟨hcz49_0,hcz49_1,hcz49_2,hcz49_3,hcz49_4⟩:=Zm BK136.out;obtain ⟨hfz49_0,hfz49_1,hfz49_2,hfz49_3,hfz49_4⟩:=Zn BK136.out;go_wp2
            go_ret
            exact ⟨rf_,bl_ HB⟩
     ·rw [if_neg c27] at H;exact absurd H (by simp)
    ·rw [if_neg c25] at H;exact absurd H (by simp)
end Go.Proofs.YtpcfebhpapdkcaaDoor.GWorld
