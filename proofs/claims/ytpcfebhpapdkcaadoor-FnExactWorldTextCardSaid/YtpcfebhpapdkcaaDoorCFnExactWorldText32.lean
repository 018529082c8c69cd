import Derived.Test.YtpcfebhpapdkcaaDoorCFnExactWorldText0
import Derived.Test.YtpcfebhpapdkcaaDoorCFnExactWorldText22
import Derived.Test.YtpcfebhpapdkcaaDoorCFnExactWorldText31
namespace Go.Proofs.YtpcfebhpapdkcaaDoor.GWorld
open Go.RowKit Go.Proofs.YtpcfebhpapdkcaaDoorW.PrintWords Go.Proofs.YtpcfebhpapdkcaaDoorW.PrintLast Go.Proofs.YtpcfebhpapdkcaaDoorW.PrintMore
attribute [local go_sem] max2_int min2_int max_two min_two Uc Ud max_four min_four
set_option linter.unusedVariables false
set_option linter.unusedSimpArgs false
mutual
def Xq.l0:Nat→ByteArray→List (S43)→Int→Int→List (S43)→List Int→List Int→List (List Int)→List (S47)→Option (ByteArray)
 |0,_,_,_,_,_,_,_,_,_=>none
 |k+1,x3,x11,x12,x13,x259000,x259001,x259002,x259003,x259004=>if x13<x12 then (if 0≤x13 then (if x13<(x11.length:Int) then ((Zl.f k (⟨#[112,114,111,99]⟩:ByteArray) (([(Xm x11 x13).f2,(Xm x11 x13).f3,(Xm x11 x13).f4]:List Int))).bind fun t264=>((Zl.f k (⟨#[114,101,103,115]⟩:ByteArray) ((Xm x11 x13).f0)).bind fun t265=>(if t264.size+t265.size≤9223372036854775807 then ((Yb.f k ((Xm x11 x13).f1) 0).bind fun t266=>(if (t264 ++ t265).size+t266.size≤9223372036854775807 then (if ((t264 ++ t265) ++ t266).size+1≤9223372036854775807 then (if x3.size+(((t264 ++ t265) ++ t266) ++ (⟨#[10]⟩:ByteArray)).size≤9223372036854775807 then (Xq.l0 k (x3 ++ (((t264 ++ t265) ++ t266) ++ (⟨#[10]⟩:ByteArray))) x11 x12 (wrap64 (x13+1)) x259000 x259001 x259002 x259003 x259004) else (none)) else (none)) else (none))) else (none)))) else (none)) else (none)) else ((Zl.f k (⟨#[99,101,108,108,115]⟩:ByteArray) x259001).bind fun t267=>((Zl.f k (⟨#[114,111,111,109,115]⟩:ByteArray) x259002).bind fun t268=>(if t267.size+t268.size≤9223372036854775807 then (if x3.size+(t267 ++ t268).size≤9223372036854775807 then (Xq.l1 k (x3 ++ (t267 ++ t268)) x259003 (x259003.length:Int) 0 x259000 x259001 x259002 x259003 x259004) else (none)) else (none))))
def Xq.l1:Nat→ByteArray→List (List Int)→Int→Int→List (S43)→List Int→List Int→List (List Int)→List (S47)→Option (ByteArray)
 |0,_,_,_,_,_,_,_,_,_=>none
 |k+1,x3,x47,x48,x49,x259000,x259001,x259002,x259003,x259004=>if x49<x48 then (if 0≤x49 then (if x49<(x47.length:Int) then ((Zl.f k (⟨#[115,105,103,110]⟩:ByteArray) (rd_L2 x47 x49)).bind fun t270=>(if x3.size+t270.size≤9223372036854775807 then (Xq.l1 k (x3 ++ t270) x47 x48 (wrap64 (x49+1)) x259000 x259001 x259002 x259003 x259004) else (none))) else (none)) else (none)) else (Xq.l2 k x3 x259004 (x259004.length:Int) 0)
def Xq.l2:Nat→ByteArray→List (S47)→Int→Int→Option (ByteArray)
 |0,_,_,_,_=>none
 |k+1,x3,x59,x60,x61=>if x61<x60 then (if 0≤x61 then (if x61<(x59.length:Int) then ((Zl.f k (⟨#[115,97,105,100]⟩:ByteArray) (([(Yx x59 x61).f0,(Yx x59 x61).f1]:List Int))).bind fun t276=>(if x3.size+t276.size≤9223372036854775807 then (Xq.l2 k (x3 ++ t276) x59 x60 (wrap64 (x61+1))) else (none))) else (none)) else (none)) else (some x3)
end
def Xq.f (k:Nat) (l0_0:List (S43)) (l0_1:List Int) (l0_2:List Int) (l0_3:List (List Int)) (l0_4:List (S47)):Option (ByteArray):=Xq.l0 k (⟨#[]⟩:ByteArray) l0_0 (l0_0.length:Int) 0 l0_0 l0_1 l0_2 l0_3 l0_4
def Xq.T5:Bool × List (List Nat × List Nat):=(true,[([],[]),([],[]),([1],[1]),([],[]),([3],[3]),([],[]),([5],[5]),([2,4,6],[2,4,6]),([7],[7]),([],[]),([9],[9]),([10,8],[10]),([8,11],[8,11]),([],[]),([13],[13]),([14,11],[14]),([12,15],[12,15]),([16],[16]),([0,17],[0,17]),([18,15,0,1,2,3,4,5,6,7,8,9,10,11,12,13,14,15,16,17,18],[0,18])])
def Xq.B5:List Nat:=[0,0,2,0,8,0,32,126,254,0,512,2046,4094,0,8192,28670,65534,131070,262143,524287]
theorem Xq.tab5:rtab .any (opsOf Tryd.f7 5)=Xq.T5:=by kernel_rfl
theorem Xq.bits5:waitsOk Xq.T5.2 Xq.B5=true:=by kernel_rfl
def Xq.T7:Bool × List (List Nat × List Nat):=(true,[([],[]),([],[]),([1],[1]),([2],[2]),([],[]),([4],[4]),([5,3],[5]),([3,6],[3,6]),([0,7],[0,7]),([8,6,0,1,2,3,4,5,6,7,8],[0,8])])
def Xq.B7:List Nat:=[0,0,2,6,0,16,62,126,255,511]
theorem Xq.tab7:rtab .any (opsOf Tryd.f7 7)=Xq.T7:=by kernel_rfl
theorem Xq.bits7:waitsOk Xq.T7.2 Xq.B7=true:=by kernel_rfl
set_option maxHeartbeats 8000000 in
set_option maxRecDepth 100000 in
theorem Xq.calls (k:Nat) (A0_0:Option Addr) (c0_0:Nat) (l0_0:List (S43)) (A0_1:Option Addr) (c0_1:Nat) (l0_1:List Int) (A0_2:Option Addr) (c0_2:Nat) (l0_2:List Int) (A0_3:Option Addr) (c0_3:Nat) (l0_3:List (List Int)) (A0_4:Option Addr) (c0_4:Nat) (l0_4:List (S47)) (r:ByteArray) (w:World) (hr0_0:Kd.C k43 w A0_0 l0_0.length l0_0) (hc0_0:l0_0.length≤c0_0) (hr0_1:Kd.C (Kd.int .i64) w A0_1 l0_1.length l0_1) (hc0_1:l0_1.length≤c0_1) (hr0_2:Kd.C (Kd.int .i64) w A0_2 l0_2.length l0_2) (hc0_2:l0_2.length≤c0_2) (hr0_3:Kd.C (Kd.slice 3 (Kd.int .i64)) w A0_3 l0_3.length l0_3) (hc0_3:l0_3.length≤c0_3) (hr0_4:Kd.C k47 w A0_4 l0_4.length l0_4) (hc0_4:l0_4.length≤c0_4) (h:Xq.f k l0_0 l0_1 l0_2 l0_3 l0_4=some r) (ht:Go.Proofs.YtpcfebhpapdkcaaDoor.Shelf2.Tab w) :
  Calls Tryd.prog 7 #[.agg #[.slice A0_0 l0_0.length c0_0,.slice A0_1 l0_1.length c0_1,.slice A0_2 l0_2.length c0_2,.slice A0_3 l0_3.length c0_3,.slice A0_4 l0_4.length c0_4]] w fun e w'=>e=.returned (.string r)∧Below w.heap.size w w':=by
 have HT:=Xa.mk ht;clear ht;have hu33:=Tryd.underlying33;have hu43:=Tryd.underlying43;have hu47:=Tryd.underlying47;have HR0_0:=Xa.mk hr0_0;have HC0_0:=Xa.mk hc0_0;clear hr0_0 hc0_0;have HR0_1:=Xa.mk hr0_1;have HC0_1:=Xa.mk hc0_1;clear hr0_1 hc0_1;have HR0_2:=Xa.mk hr0_2;have HC0_2:=Xa.mk hc0_2;clear hr0_2 hc0_2;have HR0_3:=Xa.mk hr0_3;have HC0_3:=Xa.mk hc0_3;clear hr0_3 hc0_3;have HR0_4:=Xa.mk hr0_4;have HC0_4:=Xa.mk hc0_4;clear hr0_4 hc0_4;have HB:=Xa.mk (Below.refl w.heap.size w);have H:(Xq.l0 k (⟨#[]⟩:ByteArray) l0_0 (l0_0.length:Int) 0 l0_0 l0_1 l0_2 l0_3 l0_4)=some r:=h;clear h;have H':=Xa.mk H;clear H
 go_enter Tryd.func7,Tryd.ntmps7
 go_wp2_with (first|((with_reducible refine Xy (N:=1) rfl ?_);refine Xw ?hg (N:=1) ?hd (cs:=#[.slice A0_0 l0_0.length c0_0,.slice A0_1 l0_1.length c0_1,.slice A0_2 l0_2.length c0_2,.slice A0_3 l0_3.length c0_3,.slice A0_4 l0_4.length c0_4]) (t:=33) ?hr ?_;(case hd=>rfl);(case hg=>rfl);(case hr=>first|(go_simp;done)|(go_simp;rfl));intro gb258 hg w2 hbox hb;have n0_:=Xa.mk (Xc (bl_ HB) hb);have n1_:=Xa.mk (hbox);have n2_:=Xa.mk ((by rw [hg];exact (Xb (bl_ HB)):w.heap.size≤gb258));have n3_:=Xa.mk ((by rw [hg];exact (Xb (bl_ HB)):w.heap.size≤gb258));clear HB;have HB:=n0_;have BK258:=n1_;have GW258:=n2_;have GE258:=n3_;clear n0_ n1_ n2_ n3_;clear hb hbox hg;obtain ⟨hcz3_0,hcz3_1,hcz3_2,hcz3_3,hcz3_4⟩:=Zm BK258.out;obtain ⟨hfz3_0,hfz3_1,hfz3_2,hfz3_3,hfz3_4⟩:=Zn BK258.out))
 go_loopg [3,13] k (fun kq v3 v13 w'=>∃ (x3_1:ByteArray) (x13_1:Int),v3=.string x3_1∧v13=.int .i64 x13_1∧Xa (Xq.l0 kq x3_1 l0_0 (l0_0.length:Int) x13_1 l0_0 l0_1 l0_2 l0_3 l0_4=some r)∧Xa (kq≤k)∧Xa (w'.heap[gb258]?=some (.cells #[(.slice A0_0 l0_0.length c0_0),(.slice A0_1 l0_1.length c0_1),(.slice A0_2 l0_2.length c0_2),(.slice A0_3 l0_3.length c0_3),(.slice A0_4 l0_4.length c0_4)] 33 (0,0)))∧Xa (Below w.heap.size w w'))
 case atStart=>exact ⟨((⟨#[]⟩:ByteArray)),(0),(by first|rfl|(simp;done)|(simp [*];done)),(by first|rfl|(simp;done)|(simp [*];done)),H',⟨Nat.le_refl _⟩,⟨ba_ BK258⟩,⟨bl_ HB⟩⟩
 case round=>
  clear H'
  try clear p2
  try clear hcz3_0
  try clear hcz3_1
  try clear hcz3_2
  try clear hcz3_3
  try clear hcz3_4
  try clear hfz3_0
  try clear hfz3_1
  try clear hfz3_2
  try clear hfz3_3
  try clear hfz3_4
  obtain ⟨x3_1,x13_1,rfl,rfl,HA,HK1,BK258,HB⟩:=hrel
  cases gk with
  |zero=>exact absurd HA.out (by simp [Xq.l0])
  |succ k1=>
   have H:=HA.out;clear HA;simp only [Xq.l0] at H;by_cases c4:x13_1<(l0_0.length:Int)
   ·rw [if_pos c4] at H;have c4b0:decide (x13_1<(l0_0.length:Int))=true:=decide_eq_true c4;clear c4;by_cases c5:0≤x13_1
    ·rw [if_pos c5] at H;have c5b0:decide (0≤x13_1)=true:=decide_eq_true c5;clear c5;by_cases c6:x13_1<(l0_0.length:Int)
     ·rw [if_pos c6] at H;have c6b0:decide (x13_1<(l0_0.length:Int))=true:=decide_eq_true c6;clear c6;obtain ⟨y261,hy261⟩:∃ y_:List Int,y_=(([(Xm l0_0 x13_1).f2,(Xm l0_0 x13_1).f3,(Xm l0_0 x13_1).f4]:List Int)):=⟨_,rfl⟩
      replace H:((Zl.f k1 (⟨#[112,114,111,99]⟩:ByteArray) y261).bind fun t264=>((Zl.f k1 (⟨#[114,101,103,115]⟩:ByteArray) ((Xm l0_0 x13_1).f0)).bind fun t265=>(if t264.size+t265.size≤9223372036854775807 then ((Yb.f k1 ((Xm l0_0 x13_1).f1) 0).bind fun t266=>(if (t264 ++ t265).size+t266.size≤9223372036854775807 then (if ((t264 ++ t265) ++ t266).size+1≤9223372036854775807 then (if x3_1.size+(((t264 ++ t265) ++ t266) ++ (⟨#[10]⟩:ByteArray)).size≤9223372036854775807 then (Xq.l0 k1 (x3_1 ++ (((t264 ++ t265) ++ t266) ++ (⟨#[10]⟩:ByteArray))) l0_0 (l0_0.length:Int) (wrap64 (x13_1+1)) l0_0 l0_1 l0_2 l0_3 l0_4) else (none)) else (none)) else (none))) else (none))))=some r:=by subst hy261;first|with_reducible exact H|(have z:=(Option.bind_some _ _).symm.trans H;with_reducible exact z)|exact H
      have Ny261:=Xa.mk hy261;clear hy261;replace H:=Option.bind_eq_some_iff.mp H;obtain ⟨t264,A70,H⟩:=H;replace H:((Zl.f k1 (⟨#[114,101,103,115]⟩:ByteArray) ((Xm l0_0 x13_1).f0)).bind fun t265=>(if t264.size+t265.size≤9223372036854775807 then ((Yb.f k1 ((Xm l0_0 x13_1).f1) 0).bind fun t266=>(if (t264 ++ t265).size+t266.size≤9223372036854775807 then (if ((t264 ++ t265) ++ t266).size+1≤9223372036854775807 then (if x3_1.size+(((t264 ++ t265) ++ t266) ++ (⟨#[10]⟩:ByteArray)).size≤9223372036854775807 then (Xq.l0 k1 (x3_1 ++ (((t264 ++ t265) ++ t266) ++ (⟨#[10]⟩:ByteArray))) l0_0 (l0_0.length:Int) (wrap64 (x13_1+1)) l0_0 l0_1 l0_2 l0_3 l0_4) else (none)) else (none)) else (none))) else (none)))=some r:=H;have A7:=Xa.mk A70;clear A70;replace H:=Option.bind_eq_some_iff.mp H;obtain ⟨t265,A80,H⟩:=H;replace H:(if t264.size+t265.size≤9223372036854775807 then ((Yb.f k1 ((Xm l0_0 x13_1).f1) 0).bind fun t266=>(if (t264 ++ t265).size+t266.size≤9223372036854775807 then (if ((t264 ++ t265) ++ t266).size+1≤9223372036854775807 then (if x3_1.size+(((t264 ++ t265) ++ t266) ++ (⟨#[10]⟩:ByteArray)).size≤9223372036854775807 then (Xq.l0 k1 (x3_1 ++ (((t264 ++ t265) ++ t266) ++ (⟨#[10]⟩:ByteArray))) l0_0 (l0_0.length:Int) (wrap64 (x13_1+1)) l0_0 l0_1 l0_2 l0_3 l0_4) else (none)) else (none)) else (none))) else (none))=some r:=H;have A8:=Xa.mk A80;clear A80;by_cases c9:t264.size+t265.size≤9223372036854775807
      ·rw [if_pos c9] at H;have c9b0:=eq_true c9;have c9b1:decide (t264.size+t265.size≤9223372036854775807)=true:=decide_eq_true c9
       try have c9b2:(9223372036854775807<t264.size+t265.size)=False:=eq_false (Nat.not_lt.2 c9)
       replace H:=Option.bind_eq_some_iff.mp H;obtain ⟨t266,A100,H⟩:=H;replace H:(if (t264 ++ t265).size+t266.size≤9223372036854775807 then (if ((t264 ++ t265) ++ t266).size+1≤9223372036854775807 then (if x3_1.size+(((t264 ++ t265) ++ t266) ++ (⟨#[10]⟩:ByteArray)).size≤9223372036854775807 then (Xq.l0 k1 (x3_1 ++ (((t264 ++ t265) ++ t266) ++ (⟨#[10]⟩:ByteArray))) l0_0 (l0_0.length:Int) (wrap64 (x13_1+1)) l0_0 l0_1 l0_2 l0_3 l0_4) else (none)) else (none)) else (none))=some r:=H;have A10:=Xa.mk A100;clear A100;by_cases c11:(t264 ++ t265).size+t266.size≤9223372036854775807
       ·rw [if_pos c11] at H;have c11b0:=eq_true c11;have c11b1:decide ((t264 ++ t265).size+t266.size≤9223372036854775807)=true:=decide_eq_true c11
        have c11s:(t264.size+t265.size)+t266.size≤9223372036854775807:=by have h_:=c11;simp only [ByteArray.size_append] at h_;exact h_
        have c11s0:=eq_true c11s;have c11s1:decide ((t264.size+t265.size)+t266.size≤9223372036854775807)=true:=decide_eq_true c11s
        try have c11s2:(9223372036854775807<(t264.size+t265.size)+t266.size)=False:=eq_false (Nat.not_lt.2 c11s)
        try have c11b2:(9223372036854775807<(t264 ++ t265).size+t266.size)=False:=eq_false (Nat.not_lt.2 c11)
        by_cases c12:((t264 ++ t265) ++ t266).size+1≤9223372036854775807
        ·rw [if_pos c12] at H;have c12b0:=eq_true c12;have c12b1:decide (((t264 ++ t265) ++ t266).size+1≤9223372036854775807)=true:=decide_eq_true c12
         have c12s:((t264.size+t265.size)+t266.size)+1≤9223372036854775807:=by have h_:=c12;simp only [ByteArray.size_append] at h_;exact h_
         have c12s0:=eq_true c12s;have c12s1:decide (((t264.size+t265.size)+t266.size)+1≤9223372036854775807)=true:=decide_eq_true c12s
         try have c12s2:(9223372036854775807<((t264.size+t265.size)+t266.size)+1)=False:=eq_false (Nat.not_lt.2 c12s)
         try have c12b2:(9223372036854775807<((t264 ++ t265) ++ t266).size+1)=False:=eq_false (Nat.not_lt.2 c12)
         by_cases c13:x3_1.size+(((t264 ++ t265) ++ t266) ++ (⟨#[10]⟩:ByteArray)).size≤9223372036854775807
         ·rw [if_pos c13] at H;have c13b0:=eq_true c13;have c13b1:decide (x3_1.size+(((t264 ++ t265) ++ t266) ++ (⟨#[10]⟩:ByteArray)).size≤9223372036854775807)=true:=decide_eq_true c13
          have c13s:x3_1.size+(((t264.size+t265.size)+t266.size)+1)≤9223372036854775807:=by have h_:=c13;simp only [ByteArray.size_append] at h_;exact h_
          have c13s0:=eq_true c13s;have c13s1:decide (x3_1.size+(((t264.size+t265.size)+t266.size)+1)≤9223372036854775807)=true:=decide_eq_true c13s
          try have c13s2:(9223372036854775807<x3_1.size+(((t264.size+t265.size)+t266.size)+1))=False:=eq_false (Nat.not_lt.2 c13s)
          try have c13b2:(9223372036854775807<x3_1.size+(((t264 ++ t265) ++ t266) ++ (⟨#[10]⟩:ByteArray)).size)=False:=eq_false (Nat.not_lt.2 c13)
          have H':=Xa.mk H;clear H;have p259:0≤(x13_1:Int):=of_decide_eq_true (by first|(with_reducible assumption)|assumption);have q259:x13_1<(l0_0.length:Int):=of_decide_eq_true (by first|(with_reducible assumption)|assumption);obtain ⟨ad259,A259_0,c259_0,A259_1,c259_1,e259,hx259_0,hx259_1,hx259_2,hx259_3,hx259_4,hl259_0,hi259_0,hl259_1,hi259_1⟩:=at_T43 HR0_0.out x13_1 p259 q259;cases e259
          replace hx259_0:=(HB.out.cell (World.block_lt_of_cell? w _ hx259_0)).trans hx259_0;replace hx259_1:=(HB.out.cell (World.block_lt_of_cell? w _ hx259_1)).trans hx259_1;replace hx259_2:=(HB.out.cell (World.block_lt_of_cell? w _ hx259_2)).trans hx259_2;replace hx259_3:=(HB.out.cell (World.block_lt_of_cell? w _ hx259_3)).trans hx259_3;replace hx259_4:=(HB.out.cell (World.block_lt_of_cell? w _ hx259_4)).trans hx259_4;have HR259_0:=Xa.mk hi259_0;have HC259_0:=Xa.mk hl259_0;clear hi259_0 hl259_0;have HR259_1:=Xa.mk hi259_1;have HC259_1:=Xa.mk hl259_1;clear hi259_1 hl259_1;replace p259:=eq_true p259;replace q259:=eq_true q259
          try go_wp2_with (first|((with_reducible refine Xy (N:=5) rfl ?_);refine Xw ?hg (N:=5) ?hd (cs:=#[.slice none 0 0,.slice none 0 0,.int .i64 0,.int .i64 0,.int .i64 0]) (t:=43) ?hr ?_;(case hd=>rfl);(case hg=>rfl);(case hr=>first|(go_simp;done)|(go_simp;rfl));intro gb260 hg w14 hbox hb;have n0_:=Xa.mk (Xh (g:=gb258) (o:=.cells #[.slice (some ad259) l0_0.length c0_0,.slice A0_1 l0_1.length c0_1,.slice A0_2 l0_2.length c0_2,.slice A0_3 l0_3.length c0_3,.slice A0_4 l0_4.length c0_4] 33 (0,0)) (ba_ BK258) hb);have n1_:=Xa.mk (Xc (bl_ HB) hb);have n2_:=Xa.mk (hbox);have n3_:=Xa.mk ((by rw [hg];exact (Xb (bl_ HB)):w.heap.size≤gb260));have n4_:=Xa.mk ((by rw [hg];exact (Xb (bl_ HB)):w.heap.size≤gb260));have n5_:=Xa.mk ((by rw [hg];exact Nat.ne_of_lt (Ym (g:=gb258) (o:=.cells #[.slice (some ad259) l0_0.length c0_0,.slice A0_1 l0_1.length c0_1,.slice A0_2 l0_2.length c0_2,.slice A0_3 l0_3.length c0_3,.slice A0_4 l0_4.length c0_4] 33 (0,0)) (ba_ BK258)):gb258≠gb260));have n6_:=Xa.mk ((by rw [hg];exact Nat.ne_of_gt (Ym (g:=gb258) (o:=.cells #[.slice (some ad259) l0_0.length c0_0,.slice A0_1 l0_1.length c0_1,.slice A0_2 l0_2.length c0_2,.slice A0_3 l0_3.length c0_3,.slice A0_4 l0_4.length c0_4] 33 (0,0)) (ba_ BK258)):gb260≠gb258));clear BK258;clear HB;have BK258:=n0_;have HB:=n1_;have BK260:=n2_;have GW260:=n3_;have GE260:=n4_;have NB258_260:=n5_;have NB260_258:=n6_;clear n0_ n1_ n2_ n3_ n4_ n5_ n6_;clear hb hbox hg;have hnb15:=NB260_258.out;have hnc15:=NB258_260.out;obtain ⟨hcz16_0,hcz16_1,hcz16_2,hcz16_3,hcz16_4⟩:=Zm BK260.out;obtain ⟨hfz16_0,hfz16_1,hfz16_2,hfz16_3,hfz16_4⟩:=Zn BK260.out))
          have n0_:Xa ((((((w14.setCell ⟨gb260,0,none⟩ (.slice A259_0 ((Xm l0_0 x13_1).f0).length c259_0)).setCell ⟨gb260,1,none⟩ (.slice A259_1 ((Xm l0_0 x13_1).f1).length c259_1)).setCell ⟨gb260,2,none⟩ (.int .i64 ((Xm l0_0 x13_1).f2))).setCell ⟨gb260,3,none⟩ (.int .i64 ((Xm l0_0 x13_1).f3))).setCell ⟨gb260,4,none⟩ (.int .i64 ((Xm l0_0 x13_1).f4))).heap[gb258]?=some (.cells #[.slice (some ad259) l0_0.length c0_0,.slice A0_1 l0_1.length c0_1,.slice A0_2 l0_2.length c0_2,.slice A0_3 l0_3.length c0_3,.slice A0_4 l0_4.length c0_4] 33 (0,0))):=⟨by (with_reducible repeat (first|refine Xj ?_ _|refine Xk ?_|refine Xi ?_ _));refine Yq ?_ NB258_260.out _;(with_reducible repeat (first|refine Xj ?_ _|refine Xk ?_|refine Xi ?_ _));refine Yq ?_ NB258_260.out _;(with_reducible repeat (first|refine Xj ?_ _|refine Xk ?_|refine Xi ?_ _));refine Yq ?_ NB258_260.out _;(with_reducible repeat (first|refine Xj ?_ _|refine Xk ?_|refine Xi ?_ _));refine Yq ?_ NB258_260.out _;(with_reducible repeat (first|refine Xj ?_ _|refine Xk ?_|refine Xi ?_ _));refine Yq ?_ NB258_260.out _;(with_reducible repeat (first|refine Xj ?_ _|refine Xk ?_|refine Xi ?_ _));exact BK258.out⟩;have n1_:Xa ((((((w14.setCell ⟨gb260,0,none⟩ (.slice A259_0 ((Xm l0_0 x13_1).f0).length c259_0)).setCell ⟨gb260,1,none⟩ (.slice A259_1 ((Xm l0_0 x13_1).f1).length c259_1)).setCell ⟨gb260,2,none⟩ (.int .i64 ((Xm l0_0 x13_1).f2))).setCell ⟨gb260,3,none⟩ (.int .i64 ((Xm l0_0 x13_1).f3))).setCell ⟨gb260,4,none⟩ (.int .i64 ((Xm l0_0 x13_1).f4))).heap[gb260]?=some (.cells #[.slice A259_0 ((Xm l0_0 x13_1).f0).length c259_0,.slice A259_1 ((Xm l0_0 x13_1).f1).length c259_1,.int .i64 ((Xm l0_0 x13_1).f2),.int .i64 ((Xm l0_0 x13_1).f3),.int .i64 ((Xm l0_0 x13_1).f4)] 43 (0,0))):=⟨by (with_reducible repeat (first|refine Xj ?_ _|refine Xk ?_|refine Xi ?_ _));refine Yh (cs:=#[.slice A259_0 ((Xm l0_0 x13_1).f0).length c259_0,.slice A259_1 ((Xm l0_0 x13_1).f1).length c259_1,.int .i64 ((Xm l0_0 x13_1).f2),.int .i64 ((Xm l0_0 x13_1).f3),.int .i64 0]) ?_ 4 _ rfl;(with_reducible repeat (first|refine Xj ?_ _|refine Xk ?_|refine Xi ?_ _));refine Yh (cs:=#[.slice A259_0 ((Xm l0_0 x13_1).f0).length c259_0,.slice A259_1 ((Xm l0_0 x13_1).f1).length c259_1,.int .i64 ((Xm l0_0 x13_1).f2),.int .i64 0,.int .i64 0]) ?_ 3 _ rfl;(with_reducible repeat (first|refine Xj ?_ _|refine Xk ?_|refine Xi ?_ _));refine Yh (cs:=#[.slice A259_0 ((Xm l0_0 x13_1).f0).length c259_0,.slice A259_1 ((Xm l0_0 x13_1).f1).length c259_1,.int .i64 0,.int .i64 0,.int .i64 0]) ?_ 2 _ rfl;(with_reducible repeat (first|refine Xj ?_ _|refine Xk ?_|refine Xi ?_ _));refine Yh (cs:=#[.slice A259_0 ((Xm l0_0 x13_1).f0).length c259_0,.slice none 0 0,.int .i64 0,.int .i64 0,.int .i64 0]) ?_ 1 _ rfl;(with_reducible repeat (first|refine Xj ?_ _|refine Xk ?_|refine Xi ?_ _));refine Yh (cs:=#[.slice none 0 0,.slice none 0 0,.int .i64 0,.int .i64 0,.int .i64 0]) ?_ 0 _ rfl;(with_reducible repeat (first|refine Xj ?_ _|refine Xk ?_|refine Xi ?_ _));exact BK260.out⟩;have n2_:Xa (Below w.heap.size w (((((w14.setCell ⟨gb260,0,none⟩ (.slice A259_0 ((Xm l0_0 x13_1).f0).length c259_0)).setCell ⟨gb260,1,none⟩ (.slice A259_1 ((Xm l0_0 x13_1).f1).length c259_1)).setCell ⟨gb260,2,none⟩ (.int .i64 ((Xm l0_0 x13_1).f2))).setCell ⟨gb260,3,none⟩ (.int .i64 ((Xm l0_0 x13_1).f3))).setCell ⟨gb260,4,none⟩ (.int .i64 ((Xm l0_0 x13_1).f4)))):=⟨bl_ HB⟩
          (try clear BK258)
          (try clear BK260)
          (try clear HB)
          generalize (((((w14.setCell ⟨gb260,0,none⟩ (.slice A259_0 ((Xm l0_0 x13_1).f0).length c259_0)).setCell ⟨gb260,1,none⟩ (.slice A259_1 ((Xm l0_0 x13_1).f1).length c259_1)).setCell ⟨gb260,2,none⟩ (.int .i64 ((Xm l0_0 x13_1).f2))).setCell ⟨gb260,3,none⟩ (.int .i64 ((Xm l0_0 x13_1).f3))).setCell ⟨gb260,4,none⟩ (.int .i64 ((Xm l0_0 x13_1).f4)))=w17 at n0_ n1_ n2_ ⊢
          have BK258:=n0_;have BK260:=n1_;have HB:=n2_;clear n0_ n1_ n2_;have n0_:=Xa.mk (Xk BK258.out);have n1_:=Xa.mk (Xk BK260.out);have n2_:=Xa.mk (Zt HB.out);clear BK258;clear BK260;clear HB;have BK258:=n0_;have BK260:=n1_;have HB:=n2_;clear n0_ n1_ n2_;refine start_ (n:=20) (S:=fun w'=>w'.cell? ⟨gb260,0,none⟩=some (.slice A259_0 ((Xm l0_0 x13_1).f0).length c259_0)∧w'.cell? ⟨gb260,1,none⟩=some (.slice A259_1 ((Xm l0_0 x13_1).f1).length c259_1)∧w'.cell? ⟨gb260,2,none⟩=some (.int .i64 ((Xm l0_0 x13_1).f2))∧w'.cell? ⟨gb260,3,none⟩=some (.int .i64 ((Xm l0_0 x13_1).f3))∧w'.cell? ⟨gb260,4,none⟩=some (.int .i64 ((Xm l0_0 x13_1).f4))) (ds:=[]) #[false,false,false,false,false,false,false,false,false,false,false,false,false,false,false,false,false,false,false,false] (by kernel_rfl) rfl rfl ⟨(Xd BK260.out 0).trans rfl,(Xd BK260.out 1).trans rfl,(Xd BK260.out 2).trans rfl,(Xd BK260.out 3).trans rfl,(Xd BK260.out 4).trans rfl⟩ (fun hHeld=>?_);refine with_tabW Xq.tab5 Xq.bits5 (fun HT_ HW_=>?_)
          generalize w17.drew=w18 at BK258 BK260 HB hHeld ⊢
          refine Yf (i:=0) (N:=some 17) (v:=?_) (a':=?_) #[true,false,false,false,false,false,false,false,false,false,false,false,false,false,false,false,false,false,false,false] rfl rfl (Ya HT_.out (by kernel_rfl)) (fun _ _ _ h=>h) (Or.inl ⟨by rfl,?_⟩) ?_ ?_
          rotate_left
          ·intro w';go_simp
           with_reducible rfl
          rotate_left
          ·simp only [Act.put,List.setIfInBounds_toArray,List.set_cons_zero,List.set_cons_succ,Xu,Xt];rfl
          refine Yf (i:=1) (N:=some 18) (v:=?_) (a':=?_) #[true,true,false,false,false,false,false,false,false,false,false,false,false,false,false,false,false,false,false,false] rfl rfl (Ya HT_.out (by kernel_rfl)) (fun _ _ _ h=>h) (Or.inl ⟨by rfl,?_⟩) ?_ ?_
          rotate_left
          ·intro w';go_simp
           with_reducible rfl
          rotate_left
          ·simp only [Act.put,List.setIfInBounds_toArray,List.set_cons_zero,List.set_cons_succ,Xu,Xt];rfl
          refine Yf (i:=3) (N:=some 20) (v:=?_) (a':=?_) #[true,true,false,true,false,false,false,false,false,false,false,false,false,false,false,false,false,false,false,false] rfl rfl (Ya HT_.out (by kernel_rfl)) (fun _ _ _ h=>h) (Or.inl ⟨by rfl,?_⟩) ?_ ?_
          rotate_left
          ·intro w';go_simp
           with_reducible rfl
          rotate_left
          ·simp only [Act.put,List.setIfInBounds_toArray,List.set_cons_zero,List.set_cons_succ,Xu,Xt];rfl
          refine Yf (i:=5) (N:=some 22) (v:=?_) (a':=?_) #[true,true,false,true,false,true,false,false,false,false,false,false,false,false,false,false,false,false,false,false] rfl rfl (Ya HT_.out (by kernel_rfl)) (fun _ _ _ h=>h) (Or.inl ⟨by rfl,?_⟩) ?_ ?_
          rotate_left
          ·intro w';go_simp
           with_reducible rfl
          rotate_left
          ·simp only [Act.put,List.setIfInBounds_toArray,List.set_cons_zero,List.set_cons_succ,Xu,Xt];rfl
          refine Yf (i:=9) (N:=some 26) (v:=?_) (a':=?_) #[true,true,false,true,false,true,false,false,false,true,false,false,false,false,false,false,false,false,false,false] rfl rfl (Ya HT_.out (by kernel_rfl)) (fun _ _ _ h=>h) (Or.inl ⟨by rfl,?_⟩) ?_ ?_
          rotate_left
          ·intro w';go_simp
           with_reducible rfl
          rotate_left
          ·simp only [Act.put,List.setIfInBounds_toArray,List.set_cons_zero,List.set_cons_succ,Xu,Xt];rfl
          refine Yf (i:=13) (N:=some 30) (v:=?_) (a':=?_) #[true,true,false,true,false,true,false,false,false,true,false,false,false,true,false,false,false,false,false,false] rfl rfl (Ya HT_.out (by kernel_rfl)) (fun _ _ _ h=>h) (Or.inl ⟨by rfl,?_⟩) ?_ ?_
          rotate_left
          ·intro w';go_simp
           with_reducible rfl
          rotate_left
          ·simp only [Act.put,List.setIfInBounds_toArray,List.set_cons_zero,List.set_cons_succ,Xu,Xt];rfl
          refine Zw (i:=2) (N:=some 19) (v:=?_) (a':=?_) #[true,true,true,true,false,true,false,false,false,true,false,false,false,true,false,false,false,false,false,false] rfl rfl (Zb HT_.out HW_.out (by kernel_rfl)) (fun _ _ _ h=>h) (Or.inl ⟨by rfl,?_⟩) hHeld ?_ ?_
          rotate_left
          ·rintro w' ⟨s0,s1,s2,s3,s4⟩
           go_simp
           with_reducible rfl
          rotate_left
          ·simp only [Act.put,List.setIfInBounds_toArray,List.set_cons_zero,List.set_cons_succ,Xu,Xt];rfl
          refine Zw (i:=4) (N:=some 21) (v:=?_) (a':=?_) #[true,true,true,true,true,true,false,false,false,true,false,false,false,true,false,false,false,false,false,false] rfl rfl (Zb HT_.out HW_.out (by kernel_rfl)) (fun _ _ _ h=>h) (Or.inl ⟨by rfl,?_⟩) hHeld ?_ ?_
          rotate_left
          ·rintro w' ⟨s0,s1,s2,s3,s4⟩
           go_simp
           with_reducible rfl
          rotate_left
          ·simp only [Act.put,List.setIfInBounds_toArray,List.set_cons_zero,List.set_cons_succ,Xu,Xt];rfl
          refine Zw (i:=6) (N:=some 23) (v:=?_) (a':=?_) #[true,true,true,true,true,true,true,false,false,true,false,false,false,true,false,false,false,false,false,false] rfl rfl (Zb HT_.out HW_.out (by kernel_rfl)) (fun _ _ _ h=>h) (Or.inl ⟨by rfl,?_⟩) hHeld ?_ ?_
          rotate_left
          ·rintro w' ⟨s0,s1,s2,s3,s4⟩
           go_simp
           with_reducible rfl
          rotate_left
          ·simp only [Act.put,List.setIfInBounds_toArray,List.set_cons_zero,List.set_cons_succ,Xu,Xt];rfl
          refine Zw (i:=10) (N:=some 27) (v:=?_) (a':=?_) #[true,true,true,true,true,true,true,false,false,true,true,false,false,true,false,false,false,false,false,false] rfl rfl (Zb HT_.out HW_.out (by kernel_rfl)) (fun _ _ _ h=>h) (Or.inl ⟨by rfl,?_⟩) hHeld ?_ ?_
          rotate_left
          ·rintro w' ⟨s0,s1,s2,s3,s4⟩
           go_simp
           with_reducible rfl
          rotate_left
          ·simp only [Act.put,List.setIfInBounds_toArray,List.set_cons_zero,List.set_cons_succ,Xu,Xt];rfl
          refine Zw (i:=14) (N:=some 31) (v:=?_) (a':=?_) #[true,true,true,true,true,true,true,false,false,true,true,false,false,true,true,false,false,false,false,false] rfl rfl (Zb HT_.out HW_.out (by kernel_rfl)) (fun _ _ _ h=>h) (Or.inl ⟨by rfl,?_⟩) hHeld ?_ ?_
          rotate_left
          ·rintro w' ⟨s0,s1,s2,s3,s4⟩
           go_simp
           with_reducible rfl
          rotate_left
          ·simp only [Act.put,List.setIfInBounds_toArray,List.set_cons_zero,List.set_cons_succ,Xu,Xt];rfl
          refine one_ (i:=7) (N:=some 24) #[true,true,true,true,true,true,true,true,false,true,true,false,false,true,true,false,false,false,false,false] rfl rfl (Ue HT_.out (by kernel_rfl)) (by decide) (fun K hK=>?_)
          refine Kd.R_lit_step (Kd.int .i64) _ 3 ?hg (N:=24) ?hd (xs:=([(Xm l0_0 x13_1).f2,(Xm l0_0 x13_1).f3,(Xm l0_0 x13_1).f4]:List Int)) (inner:=[.int .i64 ((Xm l0_0 x13_1).f2),.int .i64 ((Xm l0_0 x13_1).f3),.int .i64 ((Xm l0_0 x13_1).f4)]) (ok:=fun _=>True) (okp:=fun _=>True) ?hr ?hp (fun _ hk=>hk) trivial (Below.refl _ _) (Nat.le_refl _) (by simp) ?_;(case hd=>rfl);(case hg=>rfl);(case hr=>first|(go_simp;done)|(go_simp;rfl));(case hp=>exact (Zp.one (show Kd.M (Kd.int .i64) _ _ _ ((Xm l0_0 x13_1).f2) [.int .i64 ((Xm l0_0 x13_1).f2)] from rfl) (Zp.one (show Kd.M (Kd.int .i64) _ _ _ ((Xm l0_0 x13_1).f3) [.int .i64 ((Xm l0_0 x13_1).f3)] from rfl) (Zp.one (show Kd.M (Kd.int .i64) _ _ _ ((Xm l0_0 x13_1).f4) [.int .i64 ((Xm l0_0 x13_1).f4)] from rfl) (Zp.none _ _)))))
          intro v262 w19 ho20 hb hg_ hnew_;clear hg_ hnew_
          (first|rw [← Ny261.out] at ho20|(simp only [Int.reduceToNat] at ho20;rw [← Ny261.out] at ho20))
          have n0_:=Xa.mk (Kd.Yt ho20 (Xb (bl_ HB)));have n1_:=Xa.mk (Xh (g:=gb258) (o:=.cells #[.slice (some ad259) l0_0.length c0_0,.slice A0_1 l0_1.length c0_1,.slice A0_2 l0_2.length c0_2,.slice A0_3 l0_3.length c0_3,.slice A0_4 l0_4.length c0_4] 33 (0,0)) (ba_ BK258) hb);have n2_:=Xa.mk (Xh (g:=gb260) (o:=.cells #[.slice A259_0 ((Xm l0_0 x13_1).f0).length c259_0,.slice A259_1 ((Xm l0_0 x13_1).f1).length c259_1,.int .i64 ((Xm l0_0 x13_1).f2),.int .i64 ((Xm l0_0 x13_1).f3),.int .i64 ((Xm l0_0 x13_1).f4)] 43 (0,0)) (ba_ BK260) hb);have n3_:=Xa.mk (Xc (bl_ HB) hb);clear BK258;clear BK260;clear HB;have HO263:=n0_;have BK258:=n1_;have BK260:=n2_;have HB:=n3_;clear n0_ n1_ n2_ n3_;clear hb ho20;obtain ⟨Ao21,co21,eo21⟩:=Kd.Yz HO263.out
          (first|subst eo21|(injection eo21 with f1_ f2_ f3_;have f4_:=f1_.symm;have f5_:=f3_.symm;clear f1_ f2_ f3_;subst f4_;subst f5_))
          refine hK.out _ _ ⟨(Xd BK260.out 0).trans rfl,(Xd BK260.out 1).trans rfl,(Xd BK260.out 2).trans rfl,(Xd BK260.out 3).trans rfl,(Xd BK260.out 4).trans rfl⟩ (fun hHeld=>?_)
          clear hK K;refine norm_ (a':=?_) ?_ ?_
          rotate_left
          ·show Act.put _ (some 24) _=_
           simp only [Act.put,List.setIfInBounds_toArray,List.set_cons_zero,List.set_cons_succ,Xu,Xt];rfl
          refine one_ (i:=8) (N:=some 25) #[true,true,true,true,true,true,true,true,true,true,true,false,false,true,true,false,false,false,false,false] rfl rfl (Ue HT_.out (by kernel_rfl)) (by decide) (fun K hK=>?_)
          refine goes_ Tryd.func19 (by kernel_rfl) rfl #[.string (⟨#[112,114,111,99]⟩:ByteArray),.slice Ao21 y261.length co21] (by rfl) rfl rfl ga_ ?_
          with_reducible refine (Zl.calls k1 (⟨#[112,114,111,99]⟩:ByteArray) _ _ y261 t264 _ ?side1 ?side2 A7.out (Go.Proofs.YtpcfebhpapdkcaaDoor.Shelf2.Tab.below HT.out (bl_ HB))).mono ?_
          (case side1=>repeat (first|exact (Kd.R_reads' HO263.out).2.2|(with_reducible refine Kd.Xe ?_ _)|(with_reducible refine Kd.Xf ?_ _)|(with_reducible refine Kd.Xn ?_)))
          (case side2=>exact (Kd.R_reads' HO263.out).2.1)
          rintro e w22 ⟨rfl,hb⟩
          refine ⟨_,rfl,?_⟩
          have n0_:=Xa.mk (Kd.Xx (Kd.ra_ (HO263.out)) hb);have n1_:=Xa.mk (Xh (g:=gb258) (o:=.cells #[.slice (some ad259) l0_0.length c0_0,.slice A0_1 l0_1.length c0_1,.slice A0_2 l0_2.length c0_2,.slice A0_3 l0_3.length c0_3,.slice A0_4 l0_4.length c0_4] 33 (0,0)) (ba_ BK258) hb);have n2_:=Xa.mk (Xh (g:=gb260) (o:=.cells #[.slice A259_0 ((Xm l0_0 x13_1).f0).length c259_0,.slice A259_1 ((Xm l0_0 x13_1).f1).length c259_1,.int .i64 ((Xm l0_0 x13_1).f2),.int .i64 ((Xm l0_0 x13_1).f3),.int .i64 ((Xm l0_0 x13_1).f4)] 43 (0,0)) (ba_ BK260) hb);have n3_:=Xa.mk (Xc (bl_ HB) hb);clear HO263;clear BK258;clear BK260;clear HB;have HO263:=n0_;have BK258:=n1_;have BK260:=n2_;have HB:=n3_;clear n0_ n1_ n2_ n3_
          (try clear hb)
          (try clear hb2)
          (try clear hk)
          (try clear hi)
          refine hK.out _ _ ⟨(Xd BK260.out 0).trans rfl,(Xd BK260.out 1).trans rfl,(Xd BK260.out 2).trans rfl,(Xd BK260.out 3).trans rfl,(Xd BK260.out 4).trans rfl⟩ (fun hHeld=>?_)
          clear hK K;refine norm_ (a':=?_) ?_ ?_
          rotate_left
          ·show Act.put _ (some 25) _=_
           simp only [Act.put,List.setIfInBounds_toArray,List.set_cons_zero,List.set_cons_succ,Xu,Xt];rfl
          refine one_ (i:=11) (N:=some 28) #[true,true,true,true,true,true,true,true,true,true,true,true,false,true,true,false,false,false,false,false] rfl rfl (Ue HT_.out (by kernel_rfl)) (by decide) (fun K hK=>?_)
          refine goes_ Tryd.func19 (by kernel_rfl) rfl #[.string (⟨#[114,101,103,115]⟩:ByteArray),.slice A259_0 ((Xm l0_0 x13_1).f0).length c259_0] (by rfl) rfl rfl ga_ ?_
          with_reducible refine (Zl.calls k1 (⟨#[114,101,103,115]⟩:ByteArray) _ _ ((Xm l0_0 x13_1).f0) t265 _ ?side1 ?side2 A8.out (Go.Proofs.YtpcfebhpapdkcaaDoor.Shelf2.Tab.below HT.out (bl_ HB))).mono ?_
          (case side1=>repeat (first|exact (Kd.Xl HR259_0.out HB.out)|(with_reducible refine Kd.Xe ?_ _)|(with_reducible refine Kd.Xf ?_ _)|(with_reducible refine Kd.Xn ?_)))
          (case side2=>exact HC259_0.out)
          rintro e w23 ⟨rfl,hb⟩
          refine ⟨_,rfl,?_⟩
          have n0_:=Xa.mk (Kd.Xx (Kd.ra_ (HO263.out)) hb);have n1_:=Xa.mk (Xh (g:=gb258) (o:=.cells #[.slice (some ad259) l0_0.length c0_0,.slice A0_1 l0_1.length c0_1,.slice A0_2 l0_2.length c0_2,.slice A0_3 l0_3.length c0_3,.slice A0_4 l0_4.length c0_4] 33 (0,0)) (ba_ BK258) hb);have n2_:=Xa.mk (Xh (g:=gb260) (o:=.cells #[.slice A259_0 ((Xm l0_0 x13_1).f0).length c259_0,.slice A259_1 ((Xm l0_0 x13_1).f1).length c259_1,.int .i64 ((Xm l0_0 x13_1).f2),.int .i64 ((Xm l0_0 x13_1).f3),.int .i64 ((Xm l0_0 x13_1).f4)] 43 (0,0)) (ba_ BK260) hb);have n3_:=Xa.mk (Xc (bl_ HB) hb);clear HO263;clear BK258;clear BK260;clear HB;have HO263:=n0_;have BK258:=n1_;have BK260:=n2_;have HB:=n3_;clear n0_ n1_ n2_ n3_
          (try clear hb)
          (try clear hb2)
          (try clear hk)
          (try clear hi)
          refine hK.out _ _ ⟨(Xd BK260.out 0).trans rfl,(Xd BK260.out 1).trans rfl,(Xd BK260.out 2).trans rfl,(Xd BK260.out 3).trans rfl,(Xd BK260.out 4).trans rfl⟩ (fun hHeld=>?_)
          clear hK K;refine norm_ (a':=?_) ?_ ?_
          rotate_left
          ·show Act.put _ (some 28) _=_
           simp only [Act.put,List.setIfInBounds_toArray,List.set_cons_zero,List.set_cons_succ,Xu,Xt];rfl
          refine Yf (i:=12) (N:=some 29) (v:=?_) (a':=?_) #[true,true,true,true,true,true,true,true,true,true,true,true,true,true,true,false,false,false,false,false] rfl rfl (Ya HT_.out (by kernel_rfl)) (fun _ _ _ h=>h) (Or.inl ⟨by rfl,?_⟩) ?_ ?_
          rotate_left
          ·intro w';go_simp
           with_reducible rfl
          rotate_left
          ·simp only [Act.put,List.setIfInBounds_toArray,List.set_cons_zero,List.set_cons_succ,Xu,Xt];rfl
          refine one_ (i:=15) (N:=some 32) #[true,true,true,true,true,true,true,true,true,true,true,true,true,true,true,true,false,false,false,false] rfl rfl (Ue HT_.out (by kernel_rfl)) (by decide) (fun K hK=>?_)
          refine goes_ Tryd.func20 (by kernel_rfl) rfl #[.slice A259_1 ((Xm l0_0 x13_1).f1).length c259_1,.int .i64 0] (by rfl) rfl rfl ga_ ?_
          with_reducible refine (Yb.calls k1 _ _ ((Xm l0_0 x13_1).f1) 0 t266 _ ?side1 ?side2 A10.out (Go.Proofs.YtpcfebhpapdkcaaDoor.Shelf2.Tab.below HT.out (bl_ HB))).mono ?_
          (case side1=>repeat (first|exact (Kd.Xl HR259_1.out HB.out)|(with_reducible refine Kd.Xe ?_ _)|(with_reducible refine Kd.Xf ?_ _)|(with_reducible refine Kd.Xn ?_)))
          (case side2=>exact HC259_1.out)
          rintro e w24 ⟨rfl,hb⟩
          refine ⟨_,rfl,?_⟩
          have n0_:=Xa.mk (Kd.Xx (Kd.ra_ (HO263.out)) hb);have n1_:=Xa.mk (Xh (g:=gb258) (o:=.cells #[.slice (some ad259) l0_0.length c0_0,.slice A0_1 l0_1.length c0_1,.slice A0_2 l0_2.length c0_2,.slice A0_3 l0_3.length c0_3,.slice A0_4 l0_4.length c0_4] 33 (0,0)) (ba_ BK258) hb);have n2_:=Xa.mk (Xh (g:=gb260) (o:=.cells #[.slice A259_0 ((Xm l0_0 x13_1).f0).length c259_0,.slice A259_1 ((Xm l0_0 x13_1).f1).length c259_1,.int .i64 ((Xm l0_0 x13_1).f2),.int .i64 ((Xm l0_0 x13_1).f3),.int .i64 ((Xm l0_0 x13_1).f4)] 43 (0,0)) (ba_ BK260) hb);have n3_:=Xa.mk (Xc (bl_ HB) hb);clear HO263;clear BK258;clear BK260;clear HB;have HO263:=n0_;have BK258:=n1_;have BK260:=n2_;have HB:=n3_;clear n0_ n1_ n2_ n3_
          (try clear hb)
          (try clear hb2)
          (try clear hk)
          (try clear hi)
          refine hK.out _ _ ⟨(Xd BK260.out 0).trans rfl,(Xd BK260.out 1).trans rfl,(Xd BK260.out 2).trans rfl,(Xd BK260.out 3).trans rfl,(Xd BK260.out 4).trans rfl⟩ (fun hHeld=>?_)
          clear hK K;refine norm_ (a':=?_) ?_ ?_
          rotate_left
          ·show Act.put _ (some 32) _=_
           simp only [Act.put,List.setIfInBounds_toArray,List.set_cons_zero,List.set_cons_succ,Xu,Xt];rfl
          refine Yf (i:=16) (N:=some 33) (v:=?_) (a':=?_) #[true,true,true,true,true,true,true,true,true,true,true,true,true,true,true,true,true,false,false,false] rfl rfl (Ya HT_.out (by kernel_rfl)) (fun _ _ _ h=>h) (Or.inl ⟨by rfl,?_⟩) ?_ ?_
          rotate_left
          ·intro w';go_simp
           with_reducible rfl
          rotate_left
          ·simp only [Act.put,List.setIfInBounds_toArray,List.set_cons_zero,List.set_cons_succ,Xu,Xt];rfl
          refine Yf (i:=17) (N:=some 34) (v:=?_) (a':=?_) #[true,true,true,true,true,true,true,true,true,true,true,true,true,true,true,true,true,true,false,false] rfl rfl (Ya HT_.out (by kernel_rfl)) (fun _ _ _ h=>h) (Or.inl ⟨by rfl,?_⟩) ?_ ?_
          rotate_left
          ·intro w';go_simp
           with_reducible rfl
          rotate_left
          ·simp only [Act.put,List.setIfInBounds_toArray,List.set_cons_zero,List.set_cons_succ,Xu,Xt];rfl
          refine Yf (i:=18) (N:=some 35) (v:=?_) (a':=?_) #[true,true,true,true,true,true,true,true,true,true,true,true,true,true,true,true,true,true,true,false] rfl rfl (Ya HT_.out (by kernel_rfl)) (fun _ _ _ h=>h) (Or.inl ⟨by rfl,?_⟩) ?_ ?_
          rotate_left
          ·intro w';go_simp
           with_reducible rfl
          rotate_left
          ·simp only [Act.put,List.setIfInBounds_toArray,List.set_cons_zero,List.set_cons_succ,Xu,Xt];rfl
          refine Yf (i:=19) (N:=some 3) (v:=?_) (a':=?_) #[true,true,true,true,true,true,true,true,true,true,true,true,true,true,true,true,true,true,true,true] rfl rfl (Ya HT_.out (by kernel_rfl)) (fun _ _ _ h=>h) (Or.inl ⟨by rfl,?_⟩) ?_ ?_
          rotate_left
          ·intro w';go_simp
           with_reducible rfl
          rotate_left
          ·simp only [Act.put,List.setIfInBounds_toArray,List.set_cons_zero,List.set_cons_succ,Xu,Xt];rfl
          refine done_ (done_of HT_.out (by kernel_rfl)) ?_
          try go_wp2
          go_roundg k1
          case measure=>have:=HK1.out;omega
          case rel=>exact ⟨(x3_1 ++ (((t264 ++ t265) ++ t266) ++ (⟨#[10]⟩:ByteArray))),(wrap64 (x13_1+1)),(by first|rfl|(simp;done)|(simp [*];done)),(by first|rfl|(simp;done)|(simp [*];done)),H',⟨by have:=HK1.out;omega⟩,⟨ba_ BK258⟩,⟨bl_ HB⟩⟩
         ·rw [if_neg c13] at H;exact absurd H (by simp)
        ·rw [if_neg c12] at H;exact absurd H (by simp)
       ·rw [if_neg c11] at H;exact absurd H (by simp)
      ·rw [if_neg c9] at H;exact absurd H (by simp)
     ·rw [if_neg c6] at H;exact absurd H (by simp)
    ·rw [if_neg c5] at H;exact absurd H (by simp)
   ·rw [if_neg c4] at H;have c4b0:decide (x13_1<(l0_0.length:Int))=false:=decide_eq_false c4;clear c4;replace H:=Option.bind_eq_some_iff.mp H;obtain ⟨t267,A250,H⟩:=H;replace H:((Zl.f k1 (⟨#[114,111,111,109,115]⟩:ByteArray) l0_2).bind fun t268=>(if t267.size+t268.size≤9223372036854775807 then (if x3_1.size+(t267 ++ t268).size≤9223372036854775807 then (Xq.l1 k1 (x3_1 ++ (t267 ++ t268)) l0_3 (l0_3.length:Int) 0 l0_0 l0_1 l0_2 l0_3 l0_4) else (none)) else (none)))=some r:=H;have A25:=Xa.mk A250;clear A250;replace H:=Option.bind_eq_some_iff.mp H;obtain ⟨t268,A260,H⟩:=H;replace H:(if t267.size+t268.size≤9223372036854775807 then (if x3_1.size+(t267 ++ t268).size≤9223372036854775807 then (Xq.l1 k1 (x3_1 ++ (t267 ++ t268)) l0_3 (l0_3.length:Int) 0 l0_0 l0_1 l0_2 l0_3 l0_4) else (none)) else (none))=some r:=H;have A26:=Xa.mk A260;clear A260;by_cases c27:t267.size+t268.size≤9223372036854775807
    ·rw [if_pos c27] at H;have c27b0:=eq_true c27;have c27b1:decide (t267.size+t268.size≤9223372036854775807)=true:=decide_eq_true c27
     try have c27b2:(9223372036854775807<t267.size+t268.size)=False:=eq_false (Nat.not_lt.2 c27)
     by_cases c28:x3_1.size+(t267 ++ t268).size≤9223372036854775807
     ·rw [if_pos c28] at H;have c28b0:=eq_true c28;have c28b1:decide (x3_1.size+(t267 ++ t268).size≤9223372036854775807)=true:=decide_eq_true c28
      have c28s:x3_1.size+(t267.size+t268.size)≤9223372036854775807:=by have h_:=c28;simp only [ByteArray.size_append] at h_;exact h_
      have c28s0:=eq_true c28s;have c28s1:decide (x3_1.size+(t267.size+t268.size)≤9223372036854775807)=true:=decide_eq_true c28s
      try have c28s2:(9223372036854775807<x3_1.size+(t267.size+t268.size))=False:=eq_false (Nat.not_lt.2 c28s)
      try have c28b2:(9223372036854775807<x3_1.size+(t267 ++ t268).size)=False:=eq_false (Nat.not_lt.2 c28)
      have H':=Xa.mk H;clear H
      try go_wp2
      have n0_:=Xa.mk (Xk BK258.out);have n1_:=Xa.mk (Zt HB.out);clear BK258;clear HB;have BK258:=n0_;have HB:=n1_;clear n0_ n1_;refine start_ (n:=10) (S:=fun w'=>w'.cell? ⟨gb258,0,none⟩=some (.slice A0_0 l0_0.length c0_0)∧w'.cell? ⟨gb258,1,none⟩=some (.slice A0_1 l0_1.length c0_1)∧w'.cell? ⟨gb258,2,none⟩=some (.slice A0_2 l0_2.length c0_2)∧w'.cell? ⟨gb258,3,none⟩=some (.slice A0_3 l0_3.length c0_3)∧w'.cell? ⟨gb258,4,none⟩=some (.slice A0_4 l0_4.length c0_4)) (ds:=[]) #[false,false,false,false,false,false,false,false,false,false] (by kernel_rfl) rfl rfl ⟨(Xd BK258.out 0).trans rfl,(Xd BK258.out 1).trans rfl,(Xd BK258.out 2).trans rfl,(Xd BK258.out 3).trans rfl,(Xd BK258.out 4).trans rfl⟩ (fun hHeld=>?_);refine with_tabW Xq.tab7 Xq.bits7 (fun HT_ HW_=>?_)
      generalize wr.drew=w29 at BK258 HB hHeld ⊢
      refine Yf (i:=0) (N:=some 37) (v:=?_) (a':=?_) #[true,false,false,false,false,false,false,false,false,false] rfl rfl (Ya HT_.out (by kernel_rfl)) (fun _ _ _ h=>h) (Or.inl ⟨by rfl,?_⟩) ?_ ?_
      rotate_left
      ·intro w';go_simp
       with_reducible rfl
      rotate_left
      ·simp only [Act.put,List.setIfInBounds_toArray,List.set_cons_zero,List.set_cons_succ,Xu,Xt];rfl
      refine Yf (i:=1) (N:=some 38) (v:=?_) (a':=?_) #[true,true,false,false,false,false,false,false,false,false] rfl rfl (Ya HT_.out (by kernel_rfl)) (fun _ _ _ h=>h) (Or.inl ⟨by rfl,?_⟩) ?_ ?_
      rotate_left
      ·intro w';go_simp
       with_reducible rfl
      rotate_left
      ·simp only [Act.put,List.setIfInBounds_toArray,List.set_cons_zero,List.set_cons_succ,Xu,Xt];rfl
      refine Yf (i:=4) (N:=some 41) (v:=?_) (a':=?_) #[true,true,false,false,true,false,false,false,false,false] rfl rfl (Ya HT_.out (by kernel_rfl)) (fun _ _ _ h=>h) (Or.inl ⟨by rfl,?_⟩) ?_ ?_
      rotate_left
      ·intro w';go_simp
       with_reducible rfl
      rotate_left
      ·simp only [Act.put,List.setIfInBounds_toArray,List.set_cons_zero,List.set_cons_succ,Xu,Xt];rfl
      refine Zw (i:=2) (N:=some 39) (v:=?_) (a':=?_) #[true,true,true,false,true,false,false,false,false,false] rfl rfl (Zb HT_.out HW_.out (by kernel_rfl)) (fun _ _ _ h=>h) (Or.inl ⟨by rfl,?_⟩) hHeld ?_ ?_
      rotate_left
      ·rintro w' ⟨s0,s1,s2,s3,s4⟩
       go_simp
       with_reducible rfl
      rotate_left
      ·simp only [Act.put,List.setIfInBounds_toArray,List.set_cons_zero,List.set_cons_succ,Xu,Xt];rfl
      refine Zw (i:=5) (N:=some 42) (v:=?_) (a':=?_) #[true,true,true,false,true,true,false,false,false,false] rfl rfl (Zb HT_.out HW_.out (by kernel_rfl)) (fun _ _ _ h=>h) (Or.inl ⟨by rfl,?_⟩) hHeld ?_ ?_
      rotate_left
      ·rintro w' ⟨s0,s1,s2,s3,s4⟩
       go_simp
       with_reducible rfl
      rotate_left
      ·simp only [Act.put,List.setIfInBounds_toArray,List.set_cons_zero,List.set_cons_succ,Xu,Xt];rfl
      refine one_ (i:=3) (N:=some 40) #[true,true,true,true,true,true,false,false,false,false] rfl rfl (Ue HT_.out (by kernel_rfl)) (by decide) (fun K hK=>?_)
      refine goes_ Tryd.func19 (by kernel_rfl) rfl #[.string (⟨#[99,101,108,108,115]⟩:ByteArray),.slice A0_1 l0_1.length c0_1] (by rfl) rfl rfl ga_ ?_
      with_reducible refine (Zl.calls k1 (⟨#[99,101,108,108,115]⟩:ByteArray) _ _ l0_1 t267 _ ?side1 ?side2 A25.out (Go.Proofs.YtpcfebhpapdkcaaDoor.Shelf2.Tab.below HT.out (bl_ HB))).mono ?_
      (case side1=>repeat (first|exact (Kd.Xl HR0_1.out HB.out)|(with_reducible refine Kd.Xe ?_ _)|(with_reducible refine Kd.Xf ?_ _)|(with_reducible refine Kd.Xn ?_)))
      (case side2=>exact HC0_1.out)
      rintro e w30 ⟨rfl,hb⟩
      refine ⟨_,rfl,?_⟩
      have n0_:=Xa.mk (Xh (g:=gb258) (o:=.cells #[.slice A0_0 l0_0.length c0_0,.slice A0_1 l0_1.length c0_1,.slice A0_2 l0_2.length c0_2,.slice A0_3 l0_3.length c0_3,.slice A0_4 l0_4.length c0_4] 33 (0,0)) (ba_ BK258) hb);have n1_:=Xa.mk (Xc (bl_ HB) hb);clear BK258;clear HB;have BK258:=n0_;have HB:=n1_;clear n0_ n1_
      (try clear hb)
      (try clear hb2)
      (try clear hk)
      (try clear hi)
      refine hK.out _ _ ⟨(Xd BK258.out 0).trans rfl,(Xd BK258.out 1).trans rfl,(Xd BK258.out 2).trans rfl,(Xd BK258.out 3).trans rfl,(Xd BK258.out 4).trans rfl⟩ (fun hHeld=>?_)
      clear hK K;refine norm_ (a':=?_) ?_ ?_
      rotate_left
      ·show Act.put _ (some 40) _=_
       simp only [Act.put,List.setIfInBounds_toArray,List.set_cons_zero,List.set_cons_succ,Xu,Xt];rfl
      refine one_ (i:=6) (N:=some 43) #[true,true,true,true,true,true,true,false,false,false] rfl rfl (Ue HT_.out (by kernel_rfl)) (by decide) (fun K hK=>?_)
      refine goes_ Tryd.func19 (by kernel_rfl) rfl #[.string (⟨#[114,111,111,109,115]⟩:ByteArray),.slice A0_2 l0_2.length c0_2] (by rfl) rfl rfl ga_ ?_
      with_reducible refine (Zl.calls k1 (⟨#[114,111,111,109,115]⟩:ByteArray) _ _ l0_2 t268 _ ?side1 ?side2 A26.out (Go.Proofs.YtpcfebhpapdkcaaDoor.Shelf2.Tab.below HT.out (bl_ HB))).mono ?_
      (case side1=>repeat (first|exact (Kd.Xl HR0_2.out HB.out)|(with_reducible refine Kd.Xe ?_ _)|(with_reducible refine Kd.Xf ?_ _)|(with_reducible refine Kd.Xn ?_)))
      (case side2=>exact HC0_2.out)
      rintro e w31 ⟨rfl,hb⟩
      refine ⟨_,rfl,?_⟩
      have n0_:=Xa.mk (Xh (g:=gb258) (o:=.cells #[.slice A0_0 l0_0.length c0_0,.slice A0_1 l0_1.length c0_1,.slice A0_2 l0_2.length c0_2,.slice A0_3 l0_3.length c0_3,.slice A0_4 l0_4.length c0_4] 33 (0,0)) (ba_ BK258) hb);have n1_:=Xa.mk (Xc (bl_ HB) hb);clear BK258;clear HB;have BK258:=n0_;have HB:=n1_;clear n0_ n1_
      (try clear hb)
      (try clear hb2)
      (try clear hk)
      (try clear hi)
      refine hK.out _ _ ⟨(Xd BK258.out 0).trans rfl,(Xd BK258.out 1).trans rfl,(Xd BK258.out 2).trans rfl,(Xd BK258.out 3).trans rfl,(Xd BK258.out 4).trans rfl⟩ (fun hHeld=>?_)
      clear hK K;refine norm_ (a':=?_) ?_ ?_
      rotate_left
      ·show Act.put _ (some 43) _=_
       simp only [Act.put,List.setIfInBounds_toArray,List.set_cons_zero,List.set_cons_succ,Xu,Xt];rfl
      refine Yf (i:=7) (N:=some 44) (v:=?_) (a':=?_) #[true,true,true,true,true,true,true,true,false,false] rfl rfl (Ya HT_.out (by kernel_rfl)) (fun _ _ _ h=>h) (Or.inl ⟨by rfl,?_⟩) ?_ ?_
      rotate_left
      ·intro w';go_simp
       with_reducible rfl
      rotate_left
      ·simp only [Act.put,List.setIfInBounds_toArray,List.set_cons_zero,List.set_cons_succ,Xu,Xt];rfl
      refine Yf (i:=8) (N:=some 45) (v:=?_) (a':=?_) #[true,true,true,true,true,true,true,true,true,false] rfl rfl (Ya HT_.out (by kernel_rfl)) (fun _ _ _ h=>h) (Or.inl ⟨by rfl,?_⟩) ?_ ?_
      rotate_left
      ·intro w';go_simp
       with_reducible rfl
      rotate_left
      ·simp only [Act.put,List.setIfInBounds_toArray,List.set_cons_zero,List.set_cons_succ,Xu,Xt];rfl
      refine Yf (i:=9) (N:=some 3) (v:=?_) (a':=?_) #[true,true,true,true,true,true,true,true,true,true] rfl rfl (Ya HT_.out (by kernel_rfl)) (fun _ _ _ h=>h) (Or.inl ⟨by rfl,?_⟩) ?_ ?_
      rotate_left
      ·intro w';go_simp
       with_reducible rfl
      rotate_left
      ·simp only [Act.put,List.setIfInBounds_toArray,List.set_cons_zero,List.set_cons_succ,Xu,Xt];rfl
      refine done_ (done_of HT_.out (by kernel_rfl)) ?_
      obtain ⟨hcz32_0,hcz32_1,hcz32_2,hcz32_3,hcz32_4⟩:=Zm BK258.out;obtain ⟨hfz32_0,hfz32_1,hfz32_2,hfz32_3,hfz32_4⟩:=Zn BK258.out
      try go_wp2
      go_loopg [3,49] k1 (fun kq v3 v49 w'=>∃ (x3_2:ByteArray) (x49_2:Int),v3=.string x3_2∧v49=.int .i64 x49_2∧Xa (Xq.l1 kq x3_2 l0_3 (l0_3.length:Int) x49_2 l0_0 l0_1 l0_2 l0_3 l0_4=some r)∧Xa (kq≤k1)∧Xa (w'.heap[gb258]?=some (.cells #[(.slice A0_0 l0_0.length c0_0),(.slice A0_1 l0_1.length c0_1),(.slice A0_2 l0_2.length c0_2),(.slice A0_3 l0_3.length c0_3),(.slice A0_4 l0_4.length c0_4)] 33 (0,0)))∧Xa (Below w.heap.size w w'))
      case atStart=>exact ⟨(x3_1 ++ (t267 ++ t268)),(0),(by first|rfl|(simp;done)|(simp [*];done)),(by first|rfl|(simp;done)|(simp [*];done)),H',⟨Nat.le_refl _⟩,⟨ba_ BK258⟩,⟨bl_ HB⟩⟩
      case round=>
       clear H'
       try clear c1
       try clear c2
       try clear p2
       try clear q2
       try clear hx2
       try clear c4
       try clear c4b0
       try clear c5
       try clear c5b0
       try clear c6
       try clear c6b0
       try clear p6
       try clear c7
       try clear c9
       try clear c9b0
       try clear c9b1
       try clear c9b2
       try clear c11
       try clear c11b0
       try clear c11b1
       try clear c11b2
       try clear c12
       try clear c12b0
       try clear c12b1
       try clear c12b2
       try clear c13
       try clear c13b0
       try clear c13b1
       try clear c13b2
       try clear c15
       try clear c19
       try clear c20
       try clear c25
       try clear p25
       try clear q25
       try clear hx25
       try clear c27
       try clear c27b0
       try clear c27b1
       try clear c27b2
       try clear c28
       try clear c28b0
       try clear c28b1
       try clear c28b2
       try clear hcz16_0
       try clear hcz16_1
       try clear hcz16_2
       try clear hcz16_3
       try clear hcz16_4
       try clear hcz32_0
       try clear hcz32_1
       try clear hcz32_2
       try clear hcz32_3
       try clear hcz32_4
       try clear hcz3_0
       try clear hcz3_1
       try clear hcz3_2
       try clear hcz3_3
       try clear hcz3_4
       try clear hfz16_0
       try clear hfz16_1
       try clear hfz16_2
       try clear hfz16_3
       try clear hfz16_4
       try clear hfz32_0
       try clear hfz32_1
       try clear hfz32_2
       try clear hfz32_3
       try clear hfz32_4
       try clear hfz3_0
       try clear hfz3_1
       try clear hfz3_2
       try clear hfz3_3
       try clear hfz3_4
       try clear hx259_0
       try clear hx259_1
       try clear hx259_2
       try clear hx259_3
       try clear hx259_4
       try clear p2
       try clear p259
       try clear q259
       obtain ⟨x3_2,x49_2,rfl,rfl,HA,HK2,BK258,HB⟩:=hrel
       cases gk with
       |zero=>exact absurd HA.out (by simp [Xq.l1])
       |succ k2=>
        have H:=HA.out;clear HA;simp only [Xq.l1] at H;by_cases c33:x49_2<(l0_3.length:Int)
        ·rw [if_pos c33] at H;have c33b0:decide (x49_2<(l0_3.length:Int))=true:=decide_eq_true c33;clear c33;by_cases c34:0≤x49_2
         ·rw [if_pos c34] at H;have c34b0:decide (0≤x49_2)=true:=decide_eq_true c34;clear c34;by_cases c35:x49_2<(l0_3.length:Int)
          ·rw [if_pos c35] at H;have c35b0:decide (x49_2<(l0_3.length:Int))=true:=decide_eq_true c35;clear c35;replace H:=Option.bind_eq_some_iff.mp H;obtain ⟨t270,A360,H⟩:=H;replace H:(if x3_2.size+t270.size≤9223372036854775807 then (Xq.l1 k2 (x3_2 ++ t270) l0_3 (l0_3.length:Int) (wrap64 (x49_2+1)) l0_0 l0_1 l0_2 l0_3 l0_4) else (none))=some r:=H;have A36:=Xa.mk A360;clear A360;by_cases c37:x3_2.size+t270.size≤9223372036854775807
           ·rw [if_pos c37] at H;have c37b0:=eq_true c37;have c37b1:decide (x3_2.size+t270.size≤9223372036854775807)=true:=decide_eq_true c37
            try have c37b2:(9223372036854775807<x3_2.size+t270.size)=False:=eq_false (Nat.not_lt.2 c37)
            have H':=Xa.mk H;clear H;have p269:0≤(x49_2:Int):=of_decide_eq_true (by first|(with_reducible assumption)|assumption);have q269:x49_2<(l0_3.length:Int):=of_decide_eq_true (by first|(with_reducible assumption)|assumption);obtain ⟨ad269,A269_0,c269_0,e269,hx269_0,hl269_0,hi269_0⟩:=at_L2 HR0_3.out x49_2 p269 q269;cases e269
            replace hx269_0:=(HB.out.cell (World.block_lt_of_cell? w _ hx269_0)).trans hx269_0;have HR269_0:=Xa.mk hi269_0;have HC269_0:=Xa.mk hl269_0;clear hi269_0 hl269_0;replace p269:=eq_true p269;replace q269:=eq_true q269;go_wp2_with (first|((with_reducible refine Xo (f:=19) rfl ?_);refine Ye (some 55) rfl rfl Tryd.func19 (by kernel_rfl) rfl #[.string (⟨#[115,105,103,110]⟩:ByteArray),.slice A269_0 (rd_L2 l0_3 x49_2).length c269_0] rfl ga_ ?_;(with_reducible refine (Zl.calls k2 (⟨#[115,105,103,110]⟩:ByteArray) _ _ (rd_L2 l0_3 x49_2) t270 _ ?side1 ?side2 A36.out (Go.Proofs.YtpcfebhpapdkcaaDoor.Shelf2.Tab.below HT.out (bl_ HB))).mono ?_);(case side1=>repeat (first|exact (Kd.Xl HR269_0.out HB.out)|(with_reducible refine Kd.Xe ?_ _)|(with_reducible refine Kd.Xf ?_ _)|(with_reducible refine Kd.Xn ?_)));(case side2=>exact HC269_0.out);rintro e w38 ⟨rfl,hb⟩;refine ⟨_,rfl,?_⟩;have n0_:=Xa.mk (Xh (g:=gb258) (o:=.cells #[.slice A0_0 l0_0.length c0_0,.slice A0_1 l0_1.length c0_1,.slice A0_2 l0_2.length c0_2,.slice (some ad269) l0_3.length c0_3,.slice A0_4 l0_4.length c0_4] 33 (0,0)) (ba_ BK258) hb);have n1_:=Xa.mk (Xc (bl_ HB) hb);clear BK258;clear HB;have BK258:=n0_;have HB:=n1_;clear n0_ n1_;(try clear hb);(try clear hb2);(try clear hk);(try clear hi)))
            go_roundg k2
            case measure=>have:=HK1.out;have:=HK2.out;omega
            case rel=>exact ⟨(x3_2 ++ t270),(wrap64 (x49_2+1)),(by first|rfl|(simp;done)|(simp [*];done)),(by first|rfl|(simp;done)|(simp [*];done)),H',⟨by have:=HK1.out;have:=HK2.out;omega⟩,⟨ba_ BK258⟩,⟨bl_ HB⟩⟩
           ·rw [if_neg c37] at H;exact absurd H (by simp)
          ·rw [if_neg c35] at H;exact absurd H (by simp)
         ·rw [if_neg c34] at H;exact absurd H (by simp)
        ·rw [if_neg c33] at H;have c33b0:decide (x49_2<(l0_3.length:Int))=false:=decide_eq_false c33;clear c33;have H':=Xa.mk H;clear H;obtain ⟨hcz39_0,hcz39_1,hcz39_2,hcz39_3,hcz39_4⟩:=Zm BK258.out;obtain ⟨hfz39_0,hfz39_1,hfz39_2,hfz39_3,hfz39_4⟩:=Zn BK258.out;go_wp2
         go_loopg [3,61] k2 (fun kq v3 v61 w'=>∃ (x3_3:ByteArray) (x61_3:Int),v3=.string x3_3∧v61=.int .i64 x61_3∧Xa (Xq.l2 kq x3_3 l0_4 (l0_4.length:Int) x61_3=some r)∧Xa (kq≤k2)∧Xa (w'.heap[gb258]?=some (.cells #[(.slice A0_0 l0_0.length c0_0),(.slice A0_1 l0_1.length c0_1),(.slice A0_2 l0_2.length c0_2),(.slice A0_3 l0_3.length c0_3),(.slice A0_4 l0_4.length c0_4)] 33 (0,0)))∧Xa (Below w.heap.size w w'))
         case atStart=>exact ⟨(x3_2),(0),(by first|rfl|(simp;done)|(simp [*];done)),(by first|rfl|(simp;done)|(simp [*];done)),H',⟨Nat.le_refl _⟩,⟨ba_ BK258⟩,⟨bl_ HB⟩⟩
         case round=>
          clear H'
          try clear c1
          try clear c2
          try clear p2
          try clear q2
          try clear hx2
          try clear c3
          try clear c4
          try clear c4b0
          try clear c5
          try clear c5b0
          try clear c6
          try clear c6b0
          try clear p6
          try clear c7
          try clear c9
          try clear c9b0
          try clear c9b1
          try clear c9b2
          try clear c11
          try clear c11b0
          try clear c11b1
          try clear c11b2
          try clear c12
          try clear c12b0
          try clear c12b1
          try clear c12b2
          try clear c13
          try clear c13b0
          try clear c13b1
          try clear c13b2
          try clear c15
          try clear c19
          try clear c20
          try clear c25
          try clear p25
          try clear q25
          try clear hx25
          try clear c26
          try clear p26
          try clear q26
          try clear hx26
          try clear c27
          try clear c27b0
          try clear c27b1
          try clear c27b2
          try clear c28
          try clear c28b0
          try clear c28b1
          try clear c28b2
          try clear c33
          try clear c33b0
          try clear c34
          try clear c34b0
          try clear c35
          try clear c35b0
          try clear c37
          try clear c37b0
          try clear c37b1
          try clear c37b2
          try clear hcz16_0
          try clear hcz16_1
          try clear hcz16_2
          try clear hcz16_3
          try clear hcz16_4
          try clear hcz32_0
          try clear hcz32_1
          try clear hcz32_2
          try clear hcz32_3
          try clear hcz32_4
          try clear hcz39_0
          try clear hcz39_1
          try clear hcz39_2
          try clear hcz39_3
          try clear hcz39_4
          try clear hcz3_0
          try clear hcz3_1
          try clear hcz3_2
          try clear hcz3_3
          try clear hcz3_4
          try clear hfz16_0
          try clear hfz16_1
          try clear hfz16_2
          try clear hfz16_3
          try clear hfz16_4
          try clear hfz32_0
          try clear hfz32_1
          try clear hfz32_2
          try clear hfz32_3
          try clear hfz32_4
          try clear hfz39_0
          try clear hfz39_1
          try clear hfz39_2
          try clear hfz39_3
          try clear hfz39_4
          try clear hfz3_0
          try clear hfz3_1
          try clear hfz3_2
          try clear hfz3_3
          try clear hfz3_4
          try clear hx259_0
          try clear hx259_1
          try clear hx259_2
          try clear hx259_3
          try clear hx259_4
          try clear hx269_0
          try clear p2
          try clear p25
          try clear p259
          try clear p269
          try clear p6
          try clear q2
          try clear q25
          try clear q259
          try clear q269
          obtain ⟨x3_3,x61_3,rfl,rfl,HA,HK3,BK258,HB⟩:=hrel
          cases gk with
          |zero=>exact absurd HA.out (by simp [Xq.l2])
          |succ k3=>
           have H:=HA.out;clear HA;simp only [Xq.l2] at H;by_cases c40:x61_3<(l0_4.length:Int)
           ·rw [if_pos c40] at H;have c40b0:decide (x61_3<(l0_4.length:Int))=true:=decide_eq_true c40;clear c40;by_cases c41:0≤x61_3
            ·rw [if_pos c41] at H;have c41b0:decide (0≤x61_3)=true:=decide_eq_true c41;clear c41;by_cases c42:x61_3<(l0_4.length:Int)
             ·rw [if_pos c42] at H;have c42b0:decide (x61_3<(l0_4.length:Int))=true:=decide_eq_true c42;clear c42;obtain ⟨y273,hy273⟩:∃ y_:List Int,y_=(([(Yx l0_4 x61_3).f0,(Yx l0_4 x61_3).f1]:List Int)):=⟨_,rfl⟩
              replace H:((Zl.f k3 (⟨#[115,97,105,100]⟩:ByteArray) y273).bind fun t276=>(if x3_3.size+t276.size≤9223372036854775807 then (Xq.l2 k3 (x3_3 ++ t276) l0_4 (l0_4.length:Int) (wrap64 (x61_3+1))) else (none)))=some r:=by subst hy273;first|with_reducible exact H|(have z:=(Option.bind_some _ _).symm.trans H;with_reducible exact z)|exact H
              have Ny273:=Xa.mk hy273;clear hy273;replace H:=Option.bind_eq_some_iff.mp H;obtain ⟨t276,A430,H⟩:=H;replace H:(if x3_3.size+t276.size≤9223372036854775807 then (Xq.l2 k3 (x3_3 ++ t276) l0_4 (l0_4.length:Int) (wrap64 (x61_3+1))) else (none))=some r:=H;have A43:=Xa.mk A430;clear A430;by_cases c44:x3_3.size+t276.size≤9223372036854775807
              ·rw [if_pos c44] at H;have c44b0:=eq_true c44;have c44b1:decide (x3_3.size+t276.size≤9223372036854775807)=true:=decide_eq_true c44
               try have c44b2:(9223372036854775807<x3_3.size+t276.size)=False:=eq_false (Nat.not_lt.2 c44)
               have H':=Xa.mk H;clear H;have p271:0≤(x61_3:Int):=of_decide_eq_true (by first|(with_reducible assumption)|assumption);have q271:x61_3<(l0_4.length:Int):=of_decide_eq_true (by first|(with_reducible assumption)|assumption);obtain ⟨ad271,e271,hx271_0,hx271_1⟩:=at_T47 HR0_4.out x61_3 p271 q271;cases e271
               replace hx271_0:=(HB.out.cell (World.block_lt_of_cell? w _ hx271_0)).trans hx271_0;replace hx271_1:=(HB.out.cell (World.block_lt_of_cell? w _ hx271_1)).trans hx271_1;replace p271:=eq_true p271;replace q271:=eq_true q271;go_wp2_with (first|((with_reducible refine Xy (N:=9) rfl ?_);refine Xw ?hg (N:=9) ?hd (cs:=#[.int .i64 0,.int .i64 0]) (t:=47) ?hr ?_;(case hd=>rfl);(case hg=>rfl);(case hr=>first|(go_simp;done)|(go_simp;rfl));intro gb272 hg w45 hbox hb;have n0_:=Xa.mk (Xh (g:=gb258) (o:=.cells #[.slice A0_0 l0_0.length c0_0,.slice A0_1 l0_1.length c0_1,.slice A0_2 l0_2.length c0_2,.slice A0_3 l0_3.length c0_3,.slice (some ad271) l0_4.length c0_4] 33 (0,0)) (ba_ BK258) hb);have n1_:=Xa.mk (Xc (bl_ HB) hb);have n2_:=Xa.mk (hbox);have n3_:=Xa.mk ((by rw [hg];exact (Xb (bl_ HB)):w.heap.size≤gb272));have n4_:=Xa.mk ((by rw [hg];exact (Xb (bl_ HB)):w.heap.size≤gb272));have n5_:=Xa.mk ((by rw [hg];exact Nat.ne_of_lt (Ym (g:=gb258) (o:=.cells #[.slice A0_0 l0_0.length c0_0,.slice A0_1 l0_1.length c0_1,.slice A0_2 l0_2.length c0_2,.slice A0_3 l0_3.length c0_3,.slice (some ad271) l0_4.length c0_4] 33 (0,0)) (ba_ BK258)):gb258≠gb272));have n6_:=Xa.mk ((by rw [hg];exact Nat.ne_of_gt (Ym (g:=gb258) (o:=.cells #[.slice A0_0 l0_0.length c0_0,.slice A0_1 l0_1.length c0_1,.slice A0_2 l0_2.length c0_2,.slice A0_3 l0_3.length c0_3,.slice (some ad271) l0_4.length c0_4] 33 (0,0)) (ba_ BK258)):gb272≠gb258));clear BK258;clear HB;have BK258:=n0_;have HB:=n1_;have BK272:=n2_;have GW272:=n3_;have GE272:=n4_;have NB258_272:=n5_;have NB272_258:=n6_;clear n0_ n1_ n2_ n3_ n4_ n5_ n6_;clear hb hbox hg;have hnb46:=NB272_258.out;have hnc46:=NB258_272.out;obtain ⟨hcz47_0,hcz47_1⟩:=bc2_ BK272.out;obtain ⟨hfz47_0,hfz47_1⟩:=bf2_ BK272.out)|((with_reducible refine Xy (N:=70) rfl ?_);refine Kd.R_lit (Kd.int .i64) _ 3 ?hg (N:=70) ?hd (xs:=([(Yx l0_4 x61_3).f0,(Yx l0_4 x61_3).f1]:List Int)) (inner:=[.int .i64 ((Yx l0_4 x61_3).f0),.int .i64 ((Yx l0_4 x61_3).f1)]) (ok:=fun _=>True) (okp:=fun _=>True) ?hr ?hp (fun _ hk=>hk) trivial (Below.refl _ _) (Nat.le_refl _) (by simp) ?_;(case hd=>rfl);(case hg=>rfl);(case hr=>first|(go_simp;done)|(go_simp;rfl));(case hp=>exact (Zp.one (show Kd.M (Kd.int .i64) _ _ _ ((Yx l0_4 x61_3).f0) [.int .i64 ((Yx l0_4 x61_3).f0)] from rfl) (Zp.one (show Kd.M (Kd.int .i64) _ _ _ ((Yx l0_4 x61_3).f1) [.int .i64 ((Yx l0_4 x61_3).f1)] from rfl) (Zp.none _ _))));intro v274 w48 ho49 hb hg_ hnew_;clear hg_ hnew_;(first|rw [← Ny273.out] at ho49|(simp only [Int.reduceToNat] at ho49;rw [← Ny273.out] at ho49));have n0_:=Xa.mk (Kd.Yt ho49 (Xb (bl_ HB)));have n1_:=Xa.mk (Xh (g:=gb258) (o:=.cells #[.slice A0_0 l0_0.length c0_0,.slice A0_1 l0_1.length c0_1,.slice A0_2 l0_2.length c0_2,.slice A0_3 l0_3.length c0_3,.slice (some ad271) l0_4.length c0_4] 33 (0,0)) (by (with_reducible repeat (first|refine Xj ?_ _|refine Xk ?_|refine Xi ?_ _));refine Yq ?_ NB258_272.out _;(with_reducible repeat (first|refine Xj ?_ _|refine Xk ?_|refine Xi ?_ _));refine Yq ?_ NB258_272.out _;(with_reducible repeat (first|refine Xj ?_ _|refine Xk ?_|refine Xi ?_ _));exact BK258.out) hb);have n2_:=Xa.mk (Xh (g:=gb272) (o:=.cells #[.int .i64 ((Yx l0_4 x61_3).f0),.int .i64 ((Yx l0_4 x61_3).f1)] 47 (0,0)) (by (with_reducible repeat (first|refine Xj ?_ _|refine Xk ?_|refine Xi ?_ _));refine Yh (cs:=#[.int .i64 ((Yx l0_4 x61_3).f0),.int .i64 0]) ?_ 1 _ rfl;(with_reducible repeat (first|refine Xj ?_ _|refine Xk ?_|refine Xi ?_ _));refine Yh (cs:=#[.int .i64 0,.int .i64 0]) ?_ 0 _ rfl;(with_reducible repeat (first|refine Xj ?_ _|refine Xk ?_|refine Xi ?_ _));exact BK272.out) hb);have n3_:=Xa.mk (Xc (bl_ HB) hb);clear BK258;clear BK272;clear HB;have HO275:=n0_;have BK258:=n1_;have BK272:=n2_;have HB:=n3_;clear n0_ n1_ n2_ n3_;clear hb ho49;obtain ⟨Ao50,co50,eo50⟩:=Kd.Yz HO275.out;subst eo50)|((with_reducible refine Xo (f:=19) rfl ?_);refine Ye (some 71) rfl rfl Tryd.func19 (by kernel_rfl) rfl #[.string (⟨#[115,97,105,100]⟩:ByteArray),.slice Ao50 y273.length co50] rfl ga_ ?_;(with_reducible refine (Zl.calls k3 (⟨#[115,97,105,100]⟩:ByteArray) _ _ y273 t276 _ ?side1 ?side2 A43.out (Go.Proofs.YtpcfebhpapdkcaaDoor.Shelf2.Tab.below HT.out (bl_ HB))).mono ?_);(case side1=>repeat (first|exact (Kd.R_reads' HO275.out).2.2|(with_reducible refine Kd.Xe ?_ _)|(with_reducible refine Kd.Xf ?_ _)|(with_reducible refine Kd.Xn ?_)));(case side2=>exact (Kd.R_reads' HO275.out).2.1);rintro e w51 ⟨rfl,hb⟩;refine ⟨_,rfl,?_⟩;have n0_:=Xa.mk (Kd.Xx (Kd.ra_ (HO275.out)) hb);have n1_:=Xa.mk (Xh (g:=gb258) (o:=.cells #[.slice A0_0 l0_0.length c0_0,.slice A0_1 l0_1.length c0_1,.slice A0_2 l0_2.length c0_2,.slice A0_3 l0_3.length c0_3,.slice (some ad271) l0_4.length c0_4] 33 (0,0)) (ba_ BK258) hb);have n2_:=Xa.mk (Xh (g:=gb272) (o:=.cells #[.int .i64 ((Yx l0_4 x61_3).f0),.int .i64 ((Yx l0_4 x61_3).f1)] 47 (0,0)) (ba_ BK272) hb);have n3_:=Xa.mk (Xc (bl_ HB) hb);clear HO275;clear BK258;clear BK272;clear HB;have HO275:=n0_;have BK258:=n1_;have BK272:=n2_;have HB:=n3_;clear n0_ n1_ n2_ n3_;(try clear hb);(try clear hb2);(try clear hk);(try clear hi)))
               go_roundg k3
               case measure=>have:=HK1.out;have:=HK2.out;have:=HK3.out;omega
               case rel=>exact ⟨(x3_3 ++ t276),(wrap64 (x61_3+1)),(by first|rfl|(simp;done)|(simp [*];done)),(by first|rfl|(simp;done)|(simp [*];done)),H',⟨by have:=HK1.out;have:=HK2.out;have:=HK3.out;omega⟩,⟨ba_ BK258⟩,⟨bl_ HB⟩⟩
              ·rw [if_neg c44] at H;exact absurd H (by simp)
             ·rw [if_neg c42] at H;exact absurd H (by simp)
            ·rw [if_neg c41] at H;exact absurd H (by simp)
           ·rw [if_neg c40] at H;have c40b0:decide (x61_3<(l0_4.length:Int))=false:=decide_eq_false c40;clear c40;obtain rfl:=Option.some.inj H;go_wp2
            go_ret
            exact ⟨rf_,bl_ HB⟩
     ·rw [if_neg c28] at H;exact absurd H (by simp)
    ·rw [if_neg c27] at H;exact absurd H (by simp)
end Go.Proofs.YtpcfebhpapdkcaaDoor.GWorld
