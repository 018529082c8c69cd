import Derived.Test.YtpcfebhpapdkcaaDoorCFnExactWorldText0
import Derived.Test.YtpcfebhpapdkcaaDoorCFnExactWorldText22
import Derived.Test.YtpcfebhpapdkcaaDoorCFnExactWorldText29
import Derived.Test.YtpcfebhpapdkcaaDoorCFnExactWorldText30
namespace Go.Proofs.YtpcfebhpapdkcaaDoor.GWorld
open Go.RowKit Go.Proofs.YtpcfebhpapdkcaaDoorW.PrintWords Go.Proofs.YtpcfebhpapdkcaaDoorW.PrintLast Go.Proofs.YtpcfebhpapdkcaaDoorW.PrintMore
attribute [local go_sem] max2_int min2_int max_two min_two Uc Ud max_four min_four
set_option linter.unusedVariables false
set_option linter.unusedSimpArgs false
def Yo.l0:Nat→ByteArray→List ByteArray→List Int→Int→Int→Option (ByteArray)
 |0,_,_,_,_,_=>none
 |k+1,x1,x5,x8,x9,x10=>if x10<x9 then (if 0≤x10 then (if x10<(x8.length:Int) then ((strconv_Itoa.f (rd x8 x10)).bind fun t244=>(if x5.length<8796093022208 then (Yo.l0 k x1 (x5 ++ [t244]) x8 x9 (wrap64 (x10+1))) else (none))) else (none)) else (none)) else ((strings_Join.f x5 x1).bind fun t248=>(some t248))
def Yo.f (k:Nat) (l0:List Int) (a1:ByteArray):Option (ByteArray):=Yo.l0 k a1 ([]:List ByteArray) l0 (l0.length:Int) 0
set_option maxHeartbeats 8000000 in
set_option maxRecDepth 100000 in
theorem Yo.calls (k:Nat) (A0:Option Addr) (c0:Nat) (l0:List Int) (a1:ByteArray) (r:ByteArray) (w:World) (hr0:Kd.C (Kd.int .i64) w A0 l0.length l0) (hc0:l0.length≤c0) (h:Yo.f k l0 a1=some r) (ht:Go.Proofs.YtpcfebhpapdkcaaDoor.Shelf2.Tab w) :
  Calls Tryd.prog 29 #[.slice A0 l0.length c0,.string a1] w fun e w'=>e=.returned (.string r)∧Below w.heap.size w w':=by
 have HT:=Xa.mk ht;clear ht;have HR0:=Xa.mk hr0;have HC0:=Xa.mk hc0;clear hr0 hc0;have HB:=Xa.mk (Below.refl w.heap.size w);have H:(Yo.l0 k a1 ([]:List ByteArray) l0 (l0.length:Int) 0)=some r:=h;clear h;have H':=Xa.mk H;clear H
 go_enter Tryd.func29,Tryd.ntmps29
 go_wp2
 go_loopg [5,10] k (fun kq v5 v10 w'=>∃ (x5_1:List ByteArray) (x10_1:Int),v10=.int .i64 x10_1∧Xa (Yo.l0 kq a1 x5_1 l0 (l0.length:Int) x10_1=some r)∧Xa (kq≤k)∧Xa (Kd.R Kd.string 9 w' w.heap.size (fun _=>True) v5 x5_1)∧Xa (Below w.heap.size w w'))
 case atStart=>exact ⟨(([]:List ByteArray)),(0),(by first|rfl|(simp;done)|(simp [*];done)),H',⟨Nat.le_refl _⟩,⟨by first|exact Kd.R_nil _ _ _ _ _|exact Kd.N_nil _ _ _ _ _|exact Kd.V_nil _ _ _ _ _|exact Kd.Q_nil _ _ _ _ _|exact Kd.S_nil _ _ _ _ _⟩,⟨bl_ HB⟩⟩
 case round=>
  clear H'
  try clear c2
  try clear p2
  obtain ⟨x5_1,x10_1,rfl,HA,HK1,HO_5,HB⟩:=hrel
  cases gk with
  |zero=>exact absurd HA.out (by simp [Yo.l0])
  |succ k1=>
   have H:=HA.out;clear HA;simp only [Yo.l0] at H;by_cases c3:x10_1<(l0.length:Int)
   ·rw [if_pos c3] at H;have c3b0:decide (x10_1<(l0.length:Int))=true:=decide_eq_true c3;clear c3;by_cases c4:0≤x10_1
    ·rw [if_pos c4] at H;have c4b0:decide (0≤x10_1)=true:=decide_eq_true c4;clear c4;by_cases c5:x10_1<(l0.length:Int)
     ·rw [if_pos c5] at H;have c5b0:decide (x10_1<(l0.length:Int))=true:=decide_eq_true c5;clear c5;replace H:=Option.bind_eq_some_iff.mp H;obtain ⟨t244,A60,H⟩:=H;replace H:(if x5_1.length<8796093022208 then (Yo.l0 k1 a1 (x5_1 ++ [t244]) l0 (l0.length:Int) (wrap64 (x10_1+1))) else (none))=some r:=H;have A6:=Xa.mk A60;clear A60;by_cases c7:x5_1.length<8796093022208
      ·rw [if_pos c7] at H;have LMc7:=Xa.mk c7;clear c7;obtain ⟨y245,hy245⟩:∃ y_:List ByteArray,y_=(x5_1 ++ [t244]):=⟨_,rfl⟩
       replace H:(Yo.l0 k1 a1 y245 l0 (l0.length:Int) (wrap64 (x10_1+1)))=some r:=by subst hy245;first|with_reducible exact H|(have z:=(Option.bind_some _ _).symm.trans H;with_reducible exact z)|exact H
       have Ny245:=Xa.mk hy245;clear hy245;have H':=Xa.mk H;clear H;have p243:0≤(x10_1:Int):=of_decide_eq_true (by first|(with_reducible assumption)|assumption);have q243:x10_1<(l0.length:Int):=of_decide_eq_true (by first|(with_reducible assumption)|assumption);obtain ⟨ad243,e243,hx243_0⟩:=Kd.at_int HR0.out x10_1 p243 q243;cases e243
       replace hx243_0:=(HB.out.cell (World.block_lt_of_cell? w _ hx243_0)).trans hx243_0;replace p243:=eq_true p243;replace q243:=eq_true q243;go_wp2_with (first|((with_reducible refine Xo (f:=34) rfl ?_);refine Ye (some 16) rfl rfl Tryd.func34 (by kernel_rfl) rfl #[.int .i64 (rd l0 x10_1)] rfl ga_ ?_;(with_reducible refine (strconv_Itoa.calls (rd l0 x10_1) t244 _ A6.out (Go.Proofs.YtpcfebhpapdkcaaDoor.Shelf2.Tab.below HT.out (bl_ HB))).mono ?_);rintro e w8 ⟨rfl,hb⟩;refine ⟨_,rfl,?_⟩;have n0_:=Xa.mk (Kd.Xx (Kd.ra_ (HO_5.out)) hb);have n1_:=Xa.mk (Xc (bl_ HB) hb);clear HO_5;clear HB;have HO_5:=n0_;have HB:=n1_;clear n0_ n1_;(try clear hb);(try clear hb2);(try clear hk);(try clear hi))|((with_reducible refine gate_builtin (b:=.append) (xs:=#[.tmp 14,.tmp 17]) rfl ?_);at_builtin;refine Kd.R_append Kd.string (w0:=w) w.heap.size rfl (.tmp 14) (.tmp 17) 73 9 (.string ⟨#[]⟩) 16 rfl Tryd.underlying73 info9 rfl (by decide) (by omega) u5 x5_1 t244 [.string t244] (fun _=>True) (fun _=>False) rfl rfl ?aP (fun _ hk=>hk.elim) ?aF ?aO ?aB ?aS ?aL ?_;(case aP=>exact rfl);(case aB=>exact (bl_ HB));(case aF=>exact (fun _ _=>trivial));(case aO=>exact (Kd.ra_ (HO_5.out)));(case aS=>exact (Xb (bl_ HB)));(case aL=>have:=LMc7.out;omega);intro v246 w9 ho hb hg hat;rw [← Ny245.out] at ho;have n0_:=Xa.mk (hb);have n1_:=Xa.mk (ho);clear HB;clear HO_5;have HB:=n0_;have HO247:=n1_;clear n0_ n1_;clear ho hb hg hat))
       go_roundg k1
       case measure=>have:=HK1.out;omega
       case rel=>exact ⟨(y245),(wrap64 (x10_1+1)),(by first|rfl|(simp;done)|(simp [*];done)),H',⟨by have:=HK1.out;omega⟩,⟨Kd.ra_ (HO247.out)⟩,⟨bl_ HB⟩⟩
      ·rw [if_neg c7] at H;exact absurd H (by simp)
     ·rw [if_neg c5] at H;exact absurd H (by simp)
    ·rw [if_neg c4] at H;exact absurd H (by simp)
   ·rw [if_neg c3] at H;have c3b0:decide (x10_1<(l0.length:Int))=false:=decide_eq_false c3;clear c3;replace H:=Option.bind_eq_some_iff.mp H;obtain ⟨t248,A100,H⟩:=H;replace H:(some t248)=some r:=H;have A10:=Xa.mk A100;clear A100;obtain rfl:=Option.some.inj H;obtain ⟨Ao11,co11,eo11⟩:=Kd.Yz HO_5.out;subst eo11;go_wp2_with (first|((with_reducible refine Xo (f:=35) rfl ?_);refine Ye (some 22) rfl rfl Tryd.func35 (by kernel_rfl) rfl #[.slice Ao11 x5_1.length co11,.string a1] rfl ga_ ?_;(with_reducible refine (strings_Join.calls _ _ x5_1 a1 t248 _ ?side1 ?side2 A10.out).mono ?_);(case side1=>repeat (first|exact (Kd.R_reads' HO_5.out).2.2|(with_reducible refine Kd.Xe ?_ _)|(with_reducible refine Kd.Xf ?_ _)|(with_reducible refine Kd.Xn ?_)));(case side2=>exact (Kd.R_reads' HO_5.out).2.1);rintro e w12 ⟨rfl,hb⟩;refine ⟨_,rfl,?_⟩;have n0_:=Xa.mk (Kd.Xx (Kd.ra_ (HO_5.out)) hb);have n1_:=Xa.mk (Xc (bl_ HB) hb);clear HO_5;clear HB;have HO_5:=n0_;have HB:=n1_;clear n0_ n1_;(try clear hb);(try clear hb2);(try clear hk);(try clear hi)))
    go_ret
    exact ⟨rf_,bl_ HB⟩
def Zl.f (k:Nat) (a0:ByteArray) (l1:List Int):Option (ByteArray):=if (l1.length:Int)=0 then (if a0.size+1≤9223372036854775807 then (some (a0 ++ (⟨#[10]⟩:ByteArray))) else (none)) else (if a0.size+1≤9223372036854775807 then ((Yo.f k l1 (⟨#[32]⟩:ByteArray)).bind fun t249=>(if (a0 ++ (⟨#[32]⟩:ByteArray)).size+t249.size≤9223372036854775807 then (if ((a0 ++ (⟨#[32]⟩:ByteArray)) ++ t249).size+1≤9223372036854775807 then (some (((a0 ++ (⟨#[32]⟩:ByteArray)) ++ t249) ++ (⟨#[10]⟩:ByteArray))) else (none)) else (none))) else (none))
set_option maxHeartbeats 8000000 in
set_option maxRecDepth 100000 in
theorem Zl.calls (k:Nat) (a0:ByteArray) (A1:Option Addr) (c1:Nat) (l1:List Int) (r:ByteArray) (w:World) (hr1:Kd.C (Kd.int .i64) w A1 l1.length l1) (hc1:l1.length≤c1) (h:Zl.f k a0 l1=some r) (ht:Go.Proofs.YtpcfebhpapdkcaaDoor.Shelf2.Tab w) :
  Calls Tryd.prog 19 #[.string a0,.slice A1 l1.length c1] w fun e w'=>e=.returned (.string r)∧Below w.heap.size w w':=by
 have HT:=Xa.mk ht;clear ht;have HR1:=Xa.mk hr1;have HC1:=Xa.mk hc1;clear hr1 hc1;have HB:=Xa.mk (Below.refl w.heap.size w);have H:(if (l1.length:Int)=0 then (if a0.size+1≤9223372036854775807 then (some (a0 ++ (⟨#[10]⟩:ByteArray))) else (none)) else (if a0.size+1≤9223372036854775807 then ((Yo.f k l1 (⟨#[32]⟩:ByteArray)).bind fun t249=>(if (a0 ++ (⟨#[32]⟩:ByteArray)).size+t249.size≤9223372036854775807 then (if ((a0 ++ (⟨#[32]⟩:ByteArray)) ++ t249).size+1≤9223372036854775807 then (some (((a0 ++ (⟨#[32]⟩:ByteArray)) ++ t249) ++ (⟨#[10]⟩:ByteArray))) else (none)) else (none))) else (none)))=some r:=h;clear h;by_cases c3:(l1.length:Int)=0
 ·rw [if_pos c3] at H;have c3b0:((l1.length:Int) == 0)=true:=beq_iff_eq.mpr c3;have c3b1:((l1.length:Int) != 0)=false:=bne_eq_false_iff_eq.mpr c3;clear c3;by_cases c4:a0.size+1≤9223372036854775807
  ·rw [if_pos c4] at H;have c4b0:=eq_true c4;have c4b1:decide (a0.size+1≤9223372036854775807)=true:=decide_eq_true c4
   try have c4b2:(9223372036854775807<a0.size+1)=False:=eq_false (Nat.not_lt.2 c4)
   obtain rfl:=Option.some.inj H
   go_enter Tryd.func19,Tryd.ntmps19
   go_wp2
   go_ret
   exact ⟨rf_,bl_ HB⟩
  ·rw [if_neg c4] at H;exact absurd H (by simp)
 ·rw [if_neg c3] at H;have c3b0:((l1.length:Int) == 0)=false:=beq_eq_false_iff_ne.mpr c3;have c3b1:((l1.length:Int) != 0)=true:=bne_iff_ne.mpr c3;have c3b2:¬ (l1=[]):=fun h_=>c3 (by rw [h_];rfl);by_cases c5:a0.size+1≤9223372036854775807
  ·rw [if_pos c5] at H;have c5b0:=eq_true c5;have c5b1:decide (a0.size+1≤9223372036854775807)=true:=decide_eq_true c5
   try have c5b2:(9223372036854775807<a0.size+1)=False:=eq_false (Nat.not_lt.2 c5)
   replace H:=Option.bind_eq_some_iff.mp H;obtain ⟨t249,A60,H⟩:=H;replace H:(if (a0 ++ (⟨#[32]⟩:ByteArray)).size+t249.size≤9223372036854775807 then (if ((a0 ++ (⟨#[32]⟩:ByteArray)) ++ t249).size+1≤9223372036854775807 then (some (((a0 ++ (⟨#[32]⟩:ByteArray)) ++ t249) ++ (⟨#[10]⟩:ByteArray))) else (none)) else (none))=some r:=H;have A6:=Xa.mk A60;clear A60;by_cases c7:(a0 ++ (⟨#[32]⟩:ByteArray)).size+t249.size≤9223372036854775807
   ·rw [if_pos c7] at H;have c7b0:=eq_true c7;have c7b1:decide ((a0 ++ (⟨#[32]⟩:ByteArray)).size+t249.size≤9223372036854775807)=true:=decide_eq_true c7
    have c7s:(a0.size+1)+t249.size≤9223372036854775807:=by have h_:=c7;simp only [ByteArray.size_append] at h_;exact h_
    have c7s0:=eq_true c7s;have c7s1:decide ((a0.size+1)+t249.size≤9223372036854775807)=true:=decide_eq_true c7s
    try have c7s2:(9223372036854775807<(a0.size+1)+t249.size)=False:=eq_false (Nat.not_lt.2 c7s)
    try have c7b2:(9223372036854775807<(a0 ++ (⟨#[32]⟩:ByteArray)).size+t249.size)=False:=eq_false (Nat.not_lt.2 c7)
    by_cases c8:((a0 ++ (⟨#[32]⟩:ByteArray)) ++ t249).size+1≤9223372036854775807
    ·rw [if_pos c8] at H;have c8b0:=eq_true c8;have c8b1:decide (((a0 ++ (⟨#[32]⟩:ByteArray)) ++ t249).size+1≤9223372036854775807)=true:=decide_eq_true c8
     have c8s:((a0.size+1)+t249.size)+1≤9223372036854775807:=by have h_:=c8;simp only [ByteArray.size_append] at h_;exact h_
     have c8s0:=eq_true c8s;have c8s1:decide (((a0.size+1)+t249.size)+1≤9223372036854775807)=true:=decide_eq_true c8s
     try have c8s2:(9223372036854775807<((a0.size+1)+t249.size)+1)=False:=eq_false (Nat.not_lt.2 c8s)
     try have c8b2:(9223372036854775807<((a0 ++ (⟨#[32]⟩:ByteArray)) ++ t249).size+1)=False:=eq_false (Nat.not_lt.2 c8)
     obtain rfl:=Option.some.inj H
     go_enter Tryd.func19,Tryd.ntmps19
     go_wp2_with (first|((with_reducible refine Xo (f:=29) rfl ?_);refine Ye (some 13) rfl rfl Tryd.func29 (by kernel_rfl) rfl #[.slice A1 l1.length c1,.string (⟨#[32]⟩:ByteArray)] rfl ga_ ?_;(with_reducible refine (Yo.calls k _ _ l1 (⟨#[32]⟩:ByteArray) t249 _ ?side1 ?side2 A6.out (Go.Proofs.YtpcfebhpapdkcaaDoor.Shelf2.Tab.below HT.out (bl_ HB))).mono ?_);(case side1=>repeat (first|exact HR1.out|(with_reducible refine Kd.Xe ?_ _)|(with_reducible refine Kd.Xf ?_ _)|(with_reducible refine Kd.Xn ?_)));(case side2=>exact HC1.out);rintro e w9 ⟨rfl,hb⟩;refine ⟨_,rfl,?_⟩;have n0_:=Xa.mk (Xc (bl_ HB) hb);clear HB;have HB:=n0_;clear n0_;(try clear hb);(try clear hb2);(try clear hk);(try clear hi)))
     go_ret
     exact ⟨rf_,bl_ HB⟩
    ·rw [if_neg c8] at H;exact absurd H (by simp)
   ·rw [if_neg c7] at H;exact absurd H (by simp)
  ·rw [if_neg c5] at H;exact absurd H (by simp)
mutual
def Yb.l0:Nat→Int→ByteArray→List (S63)→Int→Int→Option (ByteArray)
 |0,_,_,_,_,_=>none
 |k+1,x1,x5,x10,x11,x12=>if x12<x11 then (if 0≤x12 then (if x12<(x10.length:Int) then ((Yo.f k (([(Xg x10 x12).f0,(Xg x10 x12).f1,(Xg x10 x12).f2,(Xg x10 x12).f3]:List Int)) (⟨#[44]⟩:ByteArray)).bind fun t255=>((Yb.f k ((Xg x10 x12).f4) (wrap64 (x1+1))).bind fun t256=>(if t255.size+t256.size≤9223372036854775807 then ((Yb.f k ((Xg x10 x12).f5) (wrap64 (x1+1))).bind fun t257=>(if (t255 ++ t256).size+t257.size≤9223372036854775807 then (if x5.size+((t255 ++ t256) ++ t257).size≤9223372036854775807 then (Yb.l0 k x1 (x5 ++ ((t255 ++ t256) ++ t257)) x10 x11 (wrap64 (x12+1))) else (none)) else (none))) else (none)))) else (none)) else (none)) else (if x5.size+1≤9223372036854775807 then (some (x5 ++ (⟨#[41]⟩:ByteArray))) else (none))
def Yb.f:Nat→List (S63)→Int→Option (ByteArray)
 |0,_,_=>none
 |k+1,l0,a1=>if a1 ≥ 6 then (some (⟨#[40,41]⟩:ByteArray)) else (Yb.l0 k a1 (⟨#[40]⟩:ByteArray) l0 (l0.length:Int) 0)
end
def Yb.T7:Bool × List (List Nat × List Nat):=(true,[([],[]),([],[]),([1],[1]),([],[]),([3],[3]),([],[]),([5],[5]),([],[]),([7],[7]),([2,4,6,8],[2,4,6,8]),([9],[9]),([],[]),([11],[11]),([],[]),([13],[13]),([12,14,10],[12,14]),([10,15],[10,15]),([],[]),([17],[17]),([],[]),([19],[19]),([18,20,15],[18,20]),([16,21],[16,21]),([0,22],[0,22]),([23,21,0,1,2,3,4,5,6,7,8,9,10,11,12,13,14,15,16,17,18,19,20,21,22,23],[0,23])])
def Yb.B7:List Nat:=[0,0,2,0,8,0,32,0,128,510,1022,0,2048,0,8192,32766,65534,0,131072,0,524288,2031614,4194302,8388607,16777215]
theorem Yb.tab7:rtab .any (opsOf Tryd.f20 7)=Yb.T7:=by kernel_rfl
theorem Yb.bits7:waitsOk Yb.T7.2 Yb.B7=true:=by kernel_rfl
set_option maxHeartbeats 8000000 in
set_option maxRecDepth 100000 in
theorem Yb.calls (k:Nat):∀ (A0:Option Addr) (c0:Nat) (l0:List (S63)) (a1:Int) (r:ByteArray) (w:World) (hr0:Kd.C k63 w A0 l0.length l0) (hc0:l0.length≤c0) (h:Yb.f k l0 a1=some r) (ht:Go.Proofs.YtpcfebhpapdkcaaDoor.Shelf2.Tab w),
  Calls Tryd.prog 20 #[.slice A0 l0.length c0,.int .i64 a1] w fun e w'=>e=.returned (.string r)∧Below w.heap.size w w':=by
 induction k using Nat.strongRecOn with
 |_ k ih=>
 intro A0 c0 l0 a1 r w hr0 hc0 h ht;have HT:=Xa.mk ht;clear ht
 cases k with
 |zero=>exact absurd h (by simp [Yb.f])
 |succ k=>
 simp only [Yb.f] at h;have hu63:=Tryd.underlying63;have HR0:=Xa.mk hr0;have HC0:=Xa.mk hc0;clear hr0 hc0;have HB:=Xa.mk (Below.refl w.heap.size w);have H:(if a1 ≥ 6 then (some (⟨#[40,41]⟩:ByteArray)) else (Yb.l0 k a1 (⟨#[40]⟩:ByteArray) l0 (l0.length:Int) 0))=some r:=h;clear h;by_cases c3:a1 ≥ 6
 ·rw [if_pos c3] at H;have c3b0:decide (6≤a1)=true:=decide_eq_true c3;clear c3;obtain rfl:=Option.some.inj H
  go_enter Tryd.func20,Tryd.ntmps20
  go_wp2
  go_ret
  exact ⟨rf_,bl_ HB⟩
 ·rw [if_neg c3] at H;have c3b0:decide (6≤a1)=false:=decide_eq_false c3;clear c3;have H':=Xa.mk H;clear H
  go_enter Tryd.func20,Tryd.ntmps20
  go_wp2
  go_loopg [5,12] k (fun kq v5 v12 w'=>∃ (x5_1:ByteArray) (x12_1:Int),v5=.string x5_1∧v12=.int .i64 x12_1∧Xa (Yb.l0 kq a1 x5_1 l0 (l0.length:Int) x12_1=some r)∧Xa (kq≤k)∧Xa (Below w.heap.size w w'))
  case atStart=>exact ⟨((⟨#[40]⟩:ByteArray)),(0),(by first|rfl|(simp;done)|(simp [*];done)),(by first|rfl|(simp;done)|(simp [*];done)),H',⟨Nat.le_refl _⟩,⟨bl_ HB⟩⟩
  case round=>
   clear H'
   try clear c2
   try clear p2
   try clear c3
   try clear c3b0
   obtain ⟨x5_1,x12_1,rfl,rfl,HA,HK1,HB⟩:=hrel
   cases gk with
   |zero=>exact absurd HA.out (by simp [Yb.l0])
   |succ k1=>
    have H:=HA.out;clear HA;simp only [Yb.l0] at H;by_cases c4:x12_1<(l0.length:Int)
    ·rw [if_pos c4] at H;have c4b0:decide (x12_1<(l0.length:Int))=true:=decide_eq_true c4;clear c4;by_cases c5:0≤x12_1
     ·rw [if_pos c5] at H;have c5b0:decide (0≤x12_1)=true:=decide_eq_true c5;clear c5;by_cases c6:x12_1<(l0.length:Int)
      ·rw [if_pos c6] at H;have c6b0:decide (x12_1<(l0.length:Int))=true:=decide_eq_true c6;clear c6;obtain ⟨y252,hy252⟩:∃ y_:List Int,y_=(([(Xg l0 x12_1).f0,(Xg l0 x12_1).f1,(Xg l0 x12_1).f2,(Xg l0 x12_1).f3]:List Int)):=⟨_,rfl⟩
       replace H:((Yo.f k1 y252 (⟨#[44]⟩:ByteArray)).bind fun t255=>((Yb.f k1 ((Xg l0 x12_1).f4) (wrap64 (a1+1))).bind fun t256=>(if t255.size+t256.size≤9223372036854775807 then ((Yb.f k1 ((Xg l0 x12_1).f5) (wrap64 (a1+1))).bind fun t257=>(if (t255 ++ t256).size+t257.size≤9223372036854775807 then (if x5_1.size+((t255 ++ t256) ++ t257).size≤9223372036854775807 then (Yb.l0 k1 a1 (x5_1 ++ ((t255 ++ t256) ++ t257)) l0 (l0.length:Int) (wrap64 (x12_1+1))) else (none)) else (none))) else (none))))=some r:=by subst hy252;first|with_reducible exact H|(have z:=(Option.bind_some _ _).symm.trans H;with_reducible exact z)|exact H
       have Ny252:=Xa.mk hy252;clear hy252;replace H:=Option.bind_eq_some_iff.mp H;obtain ⟨t255,A70,H⟩:=H;replace H:((Yb.f k1 ((Xg l0 x12_1).f4) (wrap64 (a1+1))).bind fun t256=>(if t255.size+t256.size≤9223372036854775807 then ((Yb.f k1 ((Xg l0 x12_1).f5) (wrap64 (a1+1))).bind fun t257=>(if (t255 ++ t256).size+t257.size≤9223372036854775807 then (if x5_1.size+((t255 ++ t256) ++ t257).size≤9223372036854775807 then (Yb.l0 k1 a1 (x5_1 ++ ((t255 ++ t256) ++ t257)) l0 (l0.length:Int) (wrap64 (x12_1+1))) else (none)) else (none))) else (none)))=some r:=H;have A7:=Xa.mk A70;clear A70;replace H:=Option.bind_eq_some_iff.mp H;obtain ⟨t256,A80,H⟩:=H;replace H:(if t255.size+t256.size≤9223372036854775807 then ((Yb.f k1 ((Xg l0 x12_1).f5) (wrap64 (a1+1))).bind fun t257=>(if (t255 ++ t256).size+t257.size≤9223372036854775807 then (if x5_1.size+((t255 ++ t256) ++ t257).size≤9223372036854775807 then (Yb.l0 k1 a1 (x5_1 ++ ((t255 ++ t256) ++ t257)) l0 (l0.length:Int) (wrap64 (x12_1+1))) else (none)) else (none))) else (none))=some r:=H;have A8:=Xa.mk A80;clear A80;by_cases c9:t255.size+t256.size≤9223372036854775807
       ·rw [if_pos c9] at H;have c9b0:=eq_true c9;have c9b1:decide (t255.size+t256.size≤9223372036854775807)=true:=decide_eq_true c9
        try have c9b2:(9223372036854775807<t255.size+t256.size)=False:=eq_false (Nat.not_lt.2 c9)
        replace H:=Option.bind_eq_some_iff.mp H;obtain ⟨t257,A100,H⟩:=H;replace H:(if (t255 ++ t256).size+t257.size≤9223372036854775807 then (if x5_1.size+((t255 ++ t256) ++ t257).size≤9223372036854775807 then (Yb.l0 k1 a1 (x5_1 ++ ((t255 ++ t256) ++ t257)) l0 (l0.length:Int) (wrap64 (x12_1+1))) else (none)) else (none))=some r:=H;have A10:=Xa.mk A100;clear A100;by_cases c11:(t255 ++ t256).size+t257.size≤9223372036854775807
        ·rw [if_pos c11] at H;have c11b0:=eq_true c11;have c11b1:decide ((t255 ++ t256).size+t257.size≤9223372036854775807)=true:=decide_eq_true c11
         have c11s:(t255.size+t256.size)+t257.size≤9223372036854775807:=by have h_:=c11;simp only [ByteArray.size_append] at h_;exact h_
         have c11s0:=eq_true c11s;have c11s1:decide ((t255.size+t256.size)+t257.size≤9223372036854775807)=true:=decide_eq_true c11s
         try have c11s2:(9223372036854775807<(t255.size+t256.size)+t257.size)=False:=eq_false (Nat.not_lt.2 c11s)
         try have c11b2:(9223372036854775807<(t255 ++ t256).size+t257.size)=False:=eq_false (Nat.not_lt.2 c11)
         by_cases c12:x5_1.size+((t255 ++ t256) ++ t257).size≤9223372036854775807
         ·rw [if_pos c12] at H;have c12b0:=eq_true c12;have c12b1:decide (x5_1.size+((t255 ++ t256) ++ t257).size≤9223372036854775807)=true:=decide_eq_true c12
          have c12s:x5_1.size+((t255.size+t256.size)+t257.size)≤9223372036854775807:=by have h_:=c12;simp only [ByteArray.size_append] at h_;exact h_
          have c12s0:=eq_true c12s;have c12s1:decide (x5_1.size+((t255.size+t256.size)+t257.size)≤9223372036854775807)=true:=decide_eq_true c12s
          try have c12s2:(9223372036854775807<x5_1.size+((t255.size+t256.size)+t257.size))=False:=eq_false (Nat.not_lt.2 c12s)
          try have c12b2:(9223372036854775807<x5_1.size+((t255 ++ t256) ++ t257).size)=False:=eq_false (Nat.not_lt.2 c12)
          have H':=Xa.mk H;clear H;have p250:0≤(x12_1:Int):=of_decide_eq_true (by first|(with_reducible assumption)|assumption);have q250:x12_1<(l0.length:Int):=of_decide_eq_true (by first|(with_reducible assumption)|assumption);obtain ⟨ad250,A250_4,c250_4,A250_5,c250_5,e250,hx250_0,hx250_1,hx250_2,hx250_3,hx250_4,hx250_5,hl250_4,hi250_4,hl250_5,hi250_5⟩:=at_T63 HR0.out x12_1 p250 q250;cases e250
          replace hx250_0:=(HB.out.cell (World.block_lt_of_cell? w _ hx250_0)).trans hx250_0;replace hx250_1:=(HB.out.cell (World.block_lt_of_cell? w _ hx250_1)).trans hx250_1;replace hx250_2:=(HB.out.cell (World.block_lt_of_cell? w _ hx250_2)).trans hx250_2;replace hx250_3:=(HB.out.cell (World.block_lt_of_cell? w _ hx250_3)).trans hx250_3;replace hx250_4:=(HB.out.cell (World.block_lt_of_cell? w _ hx250_4)).trans hx250_4;replace hx250_5:=(HB.out.cell (World.block_lt_of_cell? w _ hx250_5)).trans hx250_5;have HR250_4:=Xa.mk hi250_4;have HC250_4:=Xa.mk hl250_4;clear hi250_4 hl250_4;have HR250_5:=Xa.mk hi250_5;have HC250_5:=Xa.mk hl250_5;clear hi250_5 hl250_5;replace p250:=eq_true p250;replace q250:=eq_true q250
          try go_wp2_with (first|((with_reducible refine Xy (N:=7) rfl ?_);refine Xw ?hg (N:=7) ?hd (cs:=#[.int .i64 0,.int .i64 0,.int .i64 0,.int .i64 0,.slice none 0 0,.slice none 0 0]) (t:=63) ?hr ?_;(case hd=>rfl);(case hg=>rfl);(case hr=>first|(go_simp;done)|(go_simp;rfl));intro gb251 hg w13 hbox hb;have n0_:=Xa.mk (Xc (bl_ HB) hb);have n1_:=Xa.mk (hbox);have n2_:=Xa.mk ((by rw [hg];exact (Xb (bl_ HB)):w.heap.size≤gb251));have n3_:=Xa.mk ((by rw [hg];exact (Xb (bl_ HB)):w.heap.size≤gb251));clear HB;have HB:=n0_;have BK251:=n1_;have GW251:=n2_;have GE251:=n3_;clear n0_ n1_ n2_ n3_;clear hb hbox hg;obtain ⟨hcz14_0,hcz14_1,hcz14_2,hcz14_3,hcz14_4,hcz14_5⟩:=bc6_ BK251.out;obtain ⟨hfz14_0,hfz14_1,hfz14_2,hfz14_3,hfz14_4,hfz14_5⟩:=bf6_ BK251.out))
          have n0_:Xa (((((((w13.setCell ⟨gb251,0,none⟩ (.int .i64 ((Xg l0 x12_1).f0))).setCell ⟨gb251,1,none⟩ (.int .i64 ((Xg l0 x12_1).f1))).setCell ⟨gb251,2,none⟩ (.int .i64 ((Xg l0 x12_1).f2))).setCell ⟨gb251,3,none⟩ (.int .i64 ((Xg l0 x12_1).f3))).setCell ⟨gb251,4,none⟩ (.slice A250_4 ((Xg l0 x12_1).f4).length c250_4)).setCell ⟨gb251,5,none⟩ (.slice A250_5 ((Xg l0 x12_1).f5).length c250_5)).heap[gb251]?=some (.cells #[.int .i64 ((Xg l0 x12_1).f0),.int .i64 ((Xg l0 x12_1).f1),.int .i64 ((Xg l0 x12_1).f2),.int .i64 ((Xg l0 x12_1).f3),.slice A250_4 ((Xg l0 x12_1).f4).length c250_4,.slice A250_5 ((Xg l0 x12_1).f5).length c250_5] 63 (0,0))):=⟨by (with_reducible repeat (first|refine Xj ?_ _|refine Xk ?_|refine Xi ?_ _));refine Yh (cs:=#[.int .i64 ((Xg l0 x12_1).f0),.int .i64 ((Xg l0 x12_1).f1),.int .i64 ((Xg l0 x12_1).f2),.int .i64 ((Xg l0 x12_1).f3),.slice A250_4 ((Xg l0 x12_1).f4).length c250_4,.slice none 0 0]) ?_ 5 _ rfl;(with_reducible repeat (first|refine Xj ?_ _|refine Xk ?_|refine Xi ?_ _));refine Yh (cs:=#[.int .i64 ((Xg l0 x12_1).f0),.int .i64 ((Xg l0 x12_1).f1),.int .i64 ((Xg l0 x12_1).f2),.int .i64 ((Xg l0 x12_1).f3),.slice none 0 0,.slice none 0 0]) ?_ 4 _ rfl;(with_reducible repeat (first|refine Xj ?_ _|refine Xk ?_|refine Xi ?_ _));refine Yh (cs:=#[.int .i64 ((Xg l0 x12_1).f0),.int .i64 ((Xg l0 x12_1).f1),.int .i64 ((Xg l0 x12_1).f2),.int .i64 0,.slice none 0 0,.slice none 0 0]) ?_ 3 _ rfl;(with_reducible repeat (first|refine Xj ?_ _|refine Xk ?_|refine Xi ?_ _));refine Yh (cs:=#[.int .i64 ((Xg l0 x12_1).f0),.int .i64 ((Xg l0 x12_1).f1),.int .i64 0,.int .i64 0,.slice none 0 0,.slice none 0 0]) ?_ 2 _ rfl;(with_reducible repeat (first|refine Xj ?_ _|refine Xk ?_|refine Xi ?_ _));refine Yh (cs:=#[.int .i64 ((Xg l0 x12_1).f0),.int .i64 0,.int .i64 0,.int .i64 0,.slice none 0 0,.slice none 0 0]) ?_ 1 _ rfl;(with_reducible repeat (first|refine Xj ?_ _|refine Xk ?_|refine Xi ?_ _));refine Yh (cs:=#[.int .i64 0,.int .i64 0,.int .i64 0,.int .i64 0,.slice none 0 0,.slice none 0 0]) ?_ 0 _ rfl;(with_reducible repeat (first|refine Xj ?_ _|refine Xk ?_|refine Xi ?_ _));exact BK251.out⟩;have n1_:Xa (Below w.heap.size w ((((((w13.setCell ⟨gb251,0,none⟩ (.int .i64 ((Xg l0 x12_1).f0))).setCell ⟨gb251,1,none⟩ (.int .i64 ((Xg l0 x12_1).f1))).setCell ⟨gb251,2,none⟩ (.int .i64 ((Xg l0 x12_1).f2))).setCell ⟨gb251,3,none⟩ (.int .i64 ((Xg l0 x12_1).f3))).setCell ⟨gb251,4,none⟩ (.slice A250_4 ((Xg l0 x12_1).f4).length c250_4)).setCell ⟨gb251,5,none⟩ (.slice A250_5 ((Xg l0 x12_1).f5).length c250_5))):=⟨bl_ HB⟩
          (try clear BK251)
          (try clear HB)
          generalize ((((((w13.setCell ⟨gb251,0,none⟩ (.int .i64 ((Xg l0 x12_1).f0))).setCell ⟨gb251,1,none⟩ (.int .i64 ((Xg l0 x12_1).f1))).setCell ⟨gb251,2,none⟩ (.int .i64 ((Xg l0 x12_1).f2))).setCell ⟨gb251,3,none⟩ (.int .i64 ((Xg l0 x12_1).f3))).setCell ⟨gb251,4,none⟩ (.slice A250_4 ((Xg l0 x12_1).f4).length c250_4)).setCell ⟨gb251,5,none⟩ (.slice A250_5 ((Xg l0 x12_1).f5).length c250_5))=w15 at n0_ n1_ ⊢
          have BK251:=n0_;have HB:=n1_;clear n0_ n1_;have n0_:=Xa.mk (Xk BK251.out);have n1_:=Xa.mk (Zt HB.out);clear BK251;clear HB;have BK251:=n0_;have HB:=n1_;clear n0_ n1_;refine start_ (n:=25) (S:=fun w'=>w'.cell? ⟨gb251,0,none⟩=some (.int .i64 ((Xg l0 x12_1).f0))∧w'.cell? ⟨gb251,1,none⟩=some (.int .i64 ((Xg l0 x12_1).f1))∧w'.cell? ⟨gb251,2,none⟩=some (.int .i64 ((Xg l0 x12_1).f2))∧w'.cell? ⟨gb251,3,none⟩=some (.int .i64 ((Xg l0 x12_1).f3))∧w'.cell? ⟨gb251,4,none⟩=some (.slice A250_4 ((Xg l0 x12_1).f4).length c250_4)∧w'.cell? ⟨gb251,5,none⟩=some (.slice A250_5 ((Xg l0 x12_1).f5).length c250_5)) (ds:=[]) #[false,false,false,false,false,false,false,false,false,false,false,false,false,false,false,false,false,false,false,false,false,false,false,false,false] (by kernel_rfl) rfl rfl ⟨(Xd BK251.out 0).trans rfl,(Xd BK251.out 1).trans rfl,(Xd BK251.out 2).trans rfl,(Xd BK251.out 3).trans rfl,(Xd BK251.out 4).trans rfl,(Xd BK251.out 5).trans rfl⟩ (fun hHeld=>?_);refine with_tabW Yb.tab7 Yb.bits7 (fun HT_ HW_=>?_)
          generalize w15.drew=w16 at BK251 HB hHeld ⊢
          refine Yf (i:=0) (N:=some 16) (v:=?_) (a':=?_) #[true,false,false,false,false,false,false,false,false,false,false,false,false,false,false,false,false,false,false,false,false,false,false,false,false] rfl rfl (Ya HT_.out (by kernel_rfl)) (fun _ _ _ h=>h) (Or.inl ⟨by rfl,?_⟩) ?_ ?_
          rotate_left
          ·intro w';go_simp
           with_reducible rfl
          rotate_left
          ·simp only [Act.put,List.setIfInBounds_toArray,List.set_cons_zero,List.set_cons_succ,Xu,Xt];rfl
          refine Yf (i:=1) (N:=some 17) (v:=?_) (a':=?_) #[true,true,false,false,false,false,false,false,false,false,false,false,false,false,false,false,false,false,false,false,false,false,false,false,false] rfl rfl (Ya HT_.out (by kernel_rfl)) (fun _ _ _ h=>h) (Or.inl ⟨by rfl,?_⟩) ?_ ?_
          rotate_left
          ·intro w';go_simp
           with_reducible rfl
          rotate_left
          ·simp only [Act.put,List.setIfInBounds_toArray,List.set_cons_zero,List.set_cons_succ,Xu,Xt];rfl
          refine Yf (i:=3) (N:=some 19) (v:=?_) (a':=?_) #[true,true,false,true,false,false,false,false,false,false,false,false,false,false,false,false,false,false,false,false,false,false,false,false,false] rfl rfl (Ya HT_.out (by kernel_rfl)) (fun _ _ _ h=>h) (Or.inl ⟨by rfl,?_⟩) ?_ ?_
          rotate_left
          ·intro w';go_simp
           with_reducible rfl
          rotate_left
          ·simp only [Act.put,List.setIfInBounds_toArray,List.set_cons_zero,List.set_cons_succ,Xu,Xt];rfl
          refine Yf (i:=5) (N:=some 21) (v:=?_) (a':=?_) #[true,true,false,true,false,true,false,false,false,false,false,false,false,false,false,false,false,false,false,false,false,false,false,false,false] rfl rfl (Ya HT_.out (by kernel_rfl)) (fun _ _ _ h=>h) (Or.inl ⟨by rfl,?_⟩) ?_ ?_
          rotate_left
          ·intro w';go_simp
           with_reducible rfl
          rotate_left
          ·simp only [Act.put,List.setIfInBounds_toArray,List.set_cons_zero,List.set_cons_succ,Xu,Xt];rfl
          refine Yf (i:=7) (N:=some 23) (v:=?_) (a':=?_) #[true,true,false,true,false,true,false,true,false,false,false,false,false,false,false,false,false,false,false,false,false,false,false,false,false] rfl rfl (Ya HT_.out (by kernel_rfl)) (fun _ _ _ h=>h) (Or.inl ⟨by rfl,?_⟩) ?_ ?_
          rotate_left
          ·intro w';go_simp
           with_reducible rfl
          rotate_left
          ·simp only [Act.put,List.setIfInBounds_toArray,List.set_cons_zero,List.set_cons_succ,Xu,Xt];rfl
          refine Yf (i:=11) (N:=some 27) (v:=?_) (a':=?_) #[true,true,false,true,false,true,false,true,false,false,false,true,false,false,false,false,false,false,false,false,false,false,false,false,false] rfl rfl (Ya HT_.out (by kernel_rfl)) (fun _ _ _ h=>h) (Or.inl ⟨by rfl,?_⟩) ?_ ?_
          rotate_left
          ·intro w';go_simp
           with_reducible rfl
          rotate_left
          ·simp only [Act.put,List.setIfInBounds_toArray,List.set_cons_zero,List.set_cons_succ,Xu,Xt];rfl
          refine Yf (i:=13) (N:=some 29) (v:=?_) (a':=?_) #[true,true,false,true,false,true,false,true,false,false,false,true,false,true,false,false,false,false,false,false,false,false,false,false,false] rfl rfl (Ya HT_.out (by kernel_rfl)) (fun _ _ _ h=>h) (Or.inl ⟨by rfl,?_⟩) ?_ ?_
          rotate_left
          ·intro w';go_simp
           with_reducible rfl
          rotate_left
          ·simp only [Act.put,List.setIfInBounds_toArray,List.set_cons_zero,List.set_cons_succ,Xu,Xt];rfl
          refine Yf (i:=14) (N:=some 30) (v:=?_) (a':=?_) #[true,true,false,true,false,true,false,true,false,false,false,true,false,true,true,false,false,false,false,false,false,false,false,false,false] rfl rfl (Ya HT_.out (by kernel_rfl)) (fun _ _ _ h=>h) (Or.inl ⟨by rfl,?_⟩) ?_ ?_
          rotate_left
          ·intro w';go_simp
           with_reducible rfl
          rotate_left
          ·simp only [Act.put,List.setIfInBounds_toArray,List.set_cons_zero,List.set_cons_succ,Xu,Xt];rfl
          refine Yf (i:=17) (N:=some 33) (v:=?_) (a':=?_) #[true,true,false,true,false,true,false,true,false,false,false,true,false,true,true,false,false,true,false,false,false,false,false,false,false] rfl rfl (Ya HT_.out (by kernel_rfl)) (fun _ _ _ h=>h) (Or.inl ⟨by rfl,?_⟩) ?_ ?_
          rotate_left
          ·intro w';go_simp
           with_reducible rfl
          rotate_left
          ·simp only [Act.put,List.setIfInBounds_toArray,List.set_cons_zero,List.set_cons_succ,Xu,Xt];rfl
          refine Yf (i:=19) (N:=some 35) (v:=?_) (a':=?_) #[true,true,false,true,false,true,false,true,false,false,false,true,false,true,true,false,false,true,false,true,false,false,false,false,false] rfl rfl (Ya HT_.out (by kernel_rfl)) (fun _ _ _ h=>h) (Or.inl ⟨by rfl,?_⟩) ?_ ?_
          rotate_left
          ·intro w';go_simp
           with_reducible rfl
          rotate_left
          ·simp only [Act.put,List.setIfInBounds_toArray,List.set_cons_zero,List.set_cons_succ,Xu,Xt];rfl
          refine Yf (i:=20) (N:=some 36) (v:=?_) (a':=?_) #[true,true,false,true,false,true,false,true,false,false,false,true,false,true,true,false,false,true,false,true,true,false,false,false,false] rfl rfl (Ya HT_.out (by kernel_rfl)) (fun _ _ _ h=>h) (Or.inl ⟨by rfl,?_⟩) ?_ ?_
          rotate_left
          ·intro w';go_simp
           with_reducible rfl
          rotate_left
          ·simp only [Act.put,List.setIfInBounds_toArray,List.set_cons_zero,List.set_cons_succ,Xu,Xt];rfl
          refine Zw (i:=2) (N:=some 18) (v:=?_) (a':=?_) #[true,true,true,true,false,true,false,true,false,false,false,true,false,true,true,false,false,true,false,true,true,false,false,false,false] rfl rfl (Zb HT_.out HW_.out (by kernel_rfl)) (fun _ _ _ h=>h) (Or.inl ⟨by rfl,?_⟩) hHeld ?_ ?_
          rotate_left
          ·rintro w' ⟨s0,s1,s2,s3,s4,s5⟩
           go_simp
           with_reducible rfl
          rotate_left
          ·simp only [Act.put,List.setIfInBounds_toArray,List.set_cons_zero,List.set_cons_succ,Xu,Xt];rfl
          refine Zw (i:=4) (N:=some 20) (v:=?_) (a':=?_) #[true,true,true,true,true,true,false,true,false,false,false,true,false,true,true,false,false,true,false,true,true,false,false,false,false] rfl rfl (Zb HT_.out HW_.out (by kernel_rfl)) (fun _ _ _ h=>h) (Or.inl ⟨by rfl,?_⟩) hHeld ?_ ?_
          rotate_left
          ·rintro w' ⟨s0,s1,s2,s3,s4,s5⟩
           go_simp
           with_reducible rfl
          rotate_left
          ·simp only [Act.put,List.setIfInBounds_toArray,List.set_cons_zero,List.set_cons_succ,Xu,Xt];rfl
          refine Zw (i:=6) (N:=some 22) (v:=?_) (a':=?_) #[true,true,true,true,true,true,true,true,false,false,false,true,false,true,true,false,false,true,false,true,true,false,false,false,false] rfl rfl (Zb HT_.out HW_.out (by kernel_rfl)) (fun _ _ _ h=>h) (Or.inl ⟨by rfl,?_⟩) hHeld ?_ ?_
          rotate_left
          ·rintro w' ⟨s0,s1,s2,s3,s4,s5⟩
           go_simp
           with_reducible rfl
          rotate_left
          ·simp only [Act.put,List.setIfInBounds_toArray,List.set_cons_zero,List.set_cons_succ,Xu,Xt];rfl
          refine Zw (i:=8) (N:=some 24) (v:=?_) (a':=?_) #[true,true,true,true,true,true,true,true,true,false,false,true,false,true,true,false,false,true,false,true,true,false,false,false,false] rfl rfl (Zb HT_.out HW_.out (by kernel_rfl)) (fun _ _ _ h=>h) (Or.inl ⟨by rfl,?_⟩) hHeld ?_ ?_
          rotate_left
          ·rintro w' ⟨s0,s1,s2,s3,s4,s5⟩
           go_simp
           with_reducible rfl
          rotate_left
          ·simp only [Act.put,List.setIfInBounds_toArray,List.set_cons_zero,List.set_cons_succ,Xu,Xt];rfl
          refine Zw (i:=12) (N:=some 28) (v:=?_) (a':=?_) #[true,true,true,true,true,true,true,true,true,false,false,true,true,true,true,false,false,true,false,true,true,false,false,false,false] rfl rfl (Zb HT_.out HW_.out (by kernel_rfl)) (fun _ _ _ h=>h) (Or.inl ⟨by rfl,?_⟩) hHeld ?_ ?_
          rotate_left
          ·rintro w' ⟨s0,s1,s2,s3,s4,s5⟩
           go_simp
           with_reducible rfl
          rotate_left
          ·simp only [Act.put,List.setIfInBounds_toArray,List.set_cons_zero,List.set_cons_succ,Xu,Xt];rfl
          refine Zw (i:=18) (N:=some 34) (v:=?_) (a':=?_) #[true,true,true,true,true,true,true,true,true,false,false,true,true,true,true,false,false,true,true,true,true,false,false,false,false] rfl rfl (Zb HT_.out HW_.out (by kernel_rfl)) (fun _ _ _ h=>h) (Or.inl ⟨by rfl,?_⟩) hHeld ?_ ?_
          rotate_left
          ·rintro w' ⟨s0,s1,s2,s3,s4,s5⟩
           go_simp
           with_reducible rfl
          rotate_left
          ·simp only [Act.put,List.setIfInBounds_toArray,List.set_cons_zero,List.set_cons_succ,Xu,Xt];rfl
          refine one_ (i:=9) (N:=some 25) #[true,true,true,true,true,true,true,true,true,true,false,true,true,true,true,false,false,true,true,true,true,false,false,false,false] rfl rfl (Ue HT_.out (by kernel_rfl)) (by decide) (fun K hK=>?_)
          refine Kd.R_lit_step (Kd.int .i64) _ 3 ?hg (N:=25) ?hd (xs:=([(Xg l0 x12_1).f0,(Xg l0 x12_1).f1,(Xg l0 x12_1).f2,(Xg l0 x12_1).f3]:List Int)) (inner:=[.int .i64 ((Xg l0 x12_1).f0),.int .i64 ((Xg l0 x12_1).f1),.int .i64 ((Xg l0 x12_1).f2),.int .i64 ((Xg l0 x12_1).f3)]) (ok:=fun _=>True) (okp:=fun _=>True) ?hr ?hp (fun _ hk=>hk) trivial (Below.refl _ _) (Nat.le_refl _) (by simp) ?_;(case hd=>rfl);(case hg=>rfl);(case hr=>first|(go_simp;done)|(go_simp;rfl));(case hp=>exact (Zp.one (show Kd.M (Kd.int .i64) _ _ _ ((Xg l0 x12_1).f0) [.int .i64 ((Xg l0 x12_1).f0)] from rfl) (Zp.one (show Kd.M (Kd.int .i64) _ _ _ ((Xg l0 x12_1).f1) [.int .i64 ((Xg l0 x12_1).f1)] from rfl) (Zp.one (show Kd.M (Kd.int .i64) _ _ _ ((Xg l0 x12_1).f2) [.int .i64 ((Xg l0 x12_1).f2)] from rfl) (Zp.one (show Kd.M (Kd.int .i64) _ _ _ ((Xg l0 x12_1).f3) [.int .i64 ((Xg l0 x12_1).f3)] from rfl) (Zp.none _ _))))))
          intro v253 w17 ho18 hb hg_ hnew_;clear hg_ hnew_
          (first|rw [← Ny252.out] at ho18|(simp only [Int.reduceToNat] at ho18;rw [← Ny252.out] at ho18))
          have n0_:=Xa.mk (Kd.Yt ho18 (Xb (bl_ HB)));have n1_:=Xa.mk (Xh (g:=gb251) (o:=.cells #[.int .i64 ((Xg l0 x12_1).f0),.int .i64 ((Xg l0 x12_1).f1),.int .i64 ((Xg l0 x12_1).f2),.int .i64 ((Xg l0 x12_1).f3),.slice A250_4 ((Xg l0 x12_1).f4).length c250_4,.slice A250_5 ((Xg l0 x12_1).f5).length c250_5] 63 (0,0)) (ba_ BK251) hb);have n2_:=Xa.mk (Xc (bl_ HB) hb);clear BK251;clear HB;have HO254:=n0_;have BK251:=n1_;have HB:=n2_;clear n0_ n1_ n2_;clear hb ho18;obtain ⟨Ao19,co19,eo19⟩:=Kd.Yz HO254.out
          (first|subst eo19|(injection eo19 with f1_ f2_ f3_;have f4_:=f1_.symm;have f5_:=f3_.symm;clear f1_ f2_ f3_;subst f4_;subst f5_))
          refine hK.out _ _ ⟨(Xd BK251.out 0).trans rfl,(Xd BK251.out 1).trans rfl,(Xd BK251.out 2).trans rfl,(Xd BK251.out 3).trans rfl,(Xd BK251.out 4).trans rfl,(Xd BK251.out 5).trans rfl⟩ (fun hHeld=>?_)
          clear hK K;refine norm_ (a':=?_) ?_ ?_
          rotate_left
          ·show Act.put _ (some 25) _=_
           simp only [Act.put,List.setIfInBounds_toArray,List.set_cons_zero,List.set_cons_succ,Xu,Xt];rfl
          refine one_ (i:=10) (N:=some 26) #[true,true,true,true,true,true,true,true,true,true,true,true,true,true,true,false,false,true,true,true,true,false,false,false,false] rfl rfl (Ue HT_.out (by kernel_rfl)) (by decide) (fun K hK=>?_)
          refine goes_ Tryd.func29 (by kernel_rfl) rfl #[.slice Ao19 y252.length co19,.string (⟨#[44]⟩:ByteArray)] (by rfl) rfl rfl ga_ ?_
          with_reducible refine (Yo.calls k1 _ _ y252 (⟨#[44]⟩:ByteArray) t255 _ ?side1 ?side2 A7.out (Go.Proofs.YtpcfebhpapdkcaaDoor.Shelf2.Tab.below HT.out (bl_ HB))).mono ?_
          (case side1=>repeat (first|exact (Kd.R_reads' HO254.out).2.2|(with_reducible refine Kd.Xe ?_ _)|(with_reducible refine Kd.Xf ?_ _)|(with_reducible refine Kd.Xn ?_)))
          (case side2=>exact (Kd.R_reads' HO254.out).2.1)
          rintro e w20 ⟨rfl,hb⟩
          refine ⟨_,rfl,?_⟩
          have n0_:=Xa.mk (Kd.Xx (Kd.ra_ (HO254.out)) hb);have n1_:=Xa.mk (Xh (g:=gb251) (o:=.cells #[.int .i64 ((Xg l0 x12_1).f0),.int .i64 ((Xg l0 x12_1).f1),.int .i64 ((Xg l0 x12_1).f2),.int .i64 ((Xg l0 x12_1).f3),.slice A250_4 ((Xg l0 x12_1).f4).length c250_4,.slice A250_5 ((Xg l0 x12_1).f5).length c250_5] 63 (0,0)) (ba_ BK251) hb);have n2_:=Xa.mk (Xc (bl_ HB) hb);clear HO254;clear BK251;clear HB;have HO254:=n0_;have BK251:=n1_;have HB:=n2_;clear n0_ n1_ n2_
          (try clear hb)
          (try clear hb2)
          (try clear hk)
          (try clear hi)
          refine hK.out _ _ ⟨(Xd BK251.out 0).trans rfl,(Xd BK251.out 1).trans rfl,(Xd BK251.out 2).trans rfl,(Xd BK251.out 3).trans rfl,(Xd BK251.out 4).trans rfl,(Xd BK251.out 5).trans rfl⟩ (fun hHeld=>?_)
          clear hK K;refine norm_ (a':=?_) ?_ ?_
          rotate_left
          ·show Act.put _ (some 26) _=_
           simp only [Act.put,List.setIfInBounds_toArray,List.set_cons_zero,List.set_cons_succ,Xu,Xt];rfl
          refine one_ (i:=15) (N:=some 31) #[true,true,true,true,true,true,true,true,true,true,true,true,true,true,true,true,false,true,true,true,true,false,false,false,false] rfl rfl (Ue HT_.out (by kernel_rfl)) (by decide) (fun K hK=>?_)
          refine goes_ Tryd.func20 (by kernel_rfl) rfl #[.slice A250_4 ((Xg l0 x12_1).f4).length c250_4,.int .i64 (wrap64 (a1+1))] (by rfl) rfl rfl ga_ ?_
          with_reducible refine (ih k1 (by have:=HK1.out;omega) _ _ ((Xg l0 x12_1).f4) (wrap64 (a1+1)) t256 _ ?side1 ?side2 A8.out (Go.Proofs.YtpcfebhpapdkcaaDoor.Shelf2.Tab.below HT.out (bl_ HB))).mono ?_
          (case side1=>repeat (first|exact (Kd.Xl HR250_4.out HB.out)|(with_reducible refine Kd.Xe ?_ _)|(with_reducible refine Kd.Xf ?_ _)|(with_reducible refine Kd.Xn ?_)))
          (case side2=>exact HC250_4.out)
          rintro e w21 ⟨rfl,hb⟩
          refine ⟨_,rfl,?_⟩
          have n0_:=Xa.mk (Kd.Xx (Kd.ra_ (HO254.out)) hb);have n1_:=Xa.mk (Xh (g:=gb251) (o:=.cells #[.int .i64 ((Xg l0 x12_1).f0),.int .i64 ((Xg l0 x12_1).f1),.int .i64 ((Xg l0 x12_1).f2),.int .i64 ((Xg l0 x12_1).f3),.slice A250_4 ((Xg l0 x12_1).f4).length c250_4,.slice A250_5 ((Xg l0 x12_1).f5).length c250_5] 63 (0,0)) (ba_ BK251) hb);have n2_:=Xa.mk (Xc (bl_ HB) hb);clear HO254;clear BK251;clear HB;have HO254:=n0_;have BK251:=n1_;have HB:=n2_;clear n0_ n1_ n2_
          (try clear hb)
          (try clear hb2)
          (try clear hk)
          (try clear hi)
          refine hK.out _ _ ⟨(Xd BK251.out 0).trans rfl,(Xd BK251.out 1).trans rfl,(Xd BK251.out 2).trans rfl,(Xd BK251.out 3).trans rfl,(Xd BK251.out 4).trans rfl,(Xd BK251.out 5).trans rfl⟩ (fun hHeld=>?_)
          clear hK K;refine norm_ (a':=?_) ?_ ?_
          rotate_left
          ·show Act.put _ (some 31) _=_
           simp only [Act.put,List.setIfInBounds_toArray,List.set_cons_zero,List.set_cons_succ,Xu,Xt];rfl
          refine Yf (i:=16) (N:=some 32) (v:=?_) (a':=?_) #[true,true,true,true,true,true,true,true,true,true,true,true,true,true,true,true,true,true,true,true,true,false,false,false,false] rfl rfl (Ya HT_.out (by kernel_rfl)) (fun _ _ _ h=>h) (Or.inl ⟨by rfl,?_⟩) ?_ ?_
          rotate_left
          ·intro w';go_simp
           with_reducible rfl
          rotate_left
          ·simp only [Act.put,List.setIfInBounds_toArray,List.set_cons_zero,List.set_cons_succ,Xu,Xt];rfl
          refine one_ (i:=21) (N:=some 37) #[true,true,true,true,true,true,true,true,true,true,true,true,true,true,true,true,true,true,true,true,true,true,false,false,false] rfl rfl (Ue HT_.out (by kernel_rfl)) (by decide) (fun K hK=>?_)
          refine goes_ Tryd.func20 (by kernel_rfl) rfl #[.slice A250_5 ((Xg l0 x12_1).f5).length c250_5,.int .i64 (wrap64 (a1+1))] (by rfl) rfl rfl ga_ ?_
          with_reducible refine (ih k1 (by have:=HK1.out;omega) _ _ ((Xg l0 x12_1).f5) (wrap64 (a1+1)) t257 _ ?side1 ?side2 A10.out (Go.Proofs.YtpcfebhpapdkcaaDoor.Shelf2.Tab.below HT.out (bl_ HB))).mono ?_
          (case side1=>repeat (first|exact (Kd.Xl HR250_5.out HB.out)|(with_reducible refine Kd.Xe ?_ _)|(with_reducible refine Kd.Xf ?_ _)|(with_reducible refine Kd.Xn ?_)))
          (case side2=>exact HC250_5.out)
          rintro e w22 ⟨rfl,hb⟩
          refine ⟨_,rfl,?_⟩
          have n0_:=Xa.mk (Kd.Xx (Kd.ra_ (HO254.out)) hb);have n1_:=Xa.mk (Xh (g:=gb251) (o:=.cells #[.int .i64 ((Xg l0 x12_1).f0),.int .i64 ((Xg l0 x12_1).f1),.int .i64 ((Xg l0 x12_1).f2),.int .i64 ((Xg l0 x12_1).f3),.slice A250_4 ((Xg l0 x12_1).f4).length c250_4,.slice A250_5 ((Xg l0 x12_1).f5).length c250_5] 63 (0,0)) (ba_ BK251) hb);have n2_:=Xa.mk (Xc (bl_ HB) hb);clear HO254;clear BK251;clear HB;have HO254:=n0_;have BK251:=n1_;have HB:=n2_;clear n0_ n1_ n2_
          (try clear hb)
          (try clear hb2)
          (try clear hk)
          (try clear hi)
          refine hK.out _ _ ⟨(Xd BK251.out 0).trans rfl,(Xd BK251.out 1).trans rfl,(Xd BK251.out 2).trans rfl,(Xd BK251.out 3).trans rfl,(Xd BK251.out 4).trans rfl,(Xd BK251.out 5).trans rfl⟩ (fun hHeld=>?_)
          clear hK K;refine norm_ (a':=?_) ?_ ?_
          rotate_left
          ·show Act.put _ (some 37) _=_
           simp only [Act.put,List.setIfInBounds_toArray,List.set_cons_zero,List.set_cons_succ,Xu,Xt];rfl
          refine Yf (i:=22) (N:=some 38) (v:=?_) (a':=?_) #[true,true,true,true,true,true,true,true,true,true,true,true,true,true,true,true,true,true,true,true,true,true,true,false,false] rfl rfl (Ya HT_.out (by kernel_rfl)) (fun _ _ _ h=>h) (Or.inl ⟨by rfl,?_⟩) ?_ ?_
          rotate_left
          ·intro w';go_simp
           with_reducible rfl
          rotate_left
          ·simp only [Act.put,List.setIfInBounds_toArray,List.set_cons_zero,List.set_cons_succ,Xu,Xt];rfl
          refine Yf (i:=23) (N:=some 39) (v:=?_) (a':=?_) #[true,true,true,true,true,true,true,true,true,true,true,true,true,true,true,true,true,true,true,true,true,true,true,true,false] rfl rfl (Ya HT_.out (by kernel_rfl)) (fun _ _ _ h=>h) (Or.inl ⟨by rfl,?_⟩) ?_ ?_
          rotate_left
          ·intro w';go_simp
           with_reducible rfl
          rotate_left
          ·simp only [Act.put,List.setIfInBounds_toArray,List.set_cons_zero,List.set_cons_succ,Xu,Xt];rfl
          refine Yf (i:=24) (N:=some 5) (v:=?_) (a':=?_) #[true,true,true,true,true,true,true,true,true,true,true,true,true,true,true,true,true,true,true,true,true,true,true,true,true] rfl rfl (Ya HT_.out (by kernel_rfl)) (fun _ _ _ h=>h) (Or.inl ⟨by rfl,?_⟩) ?_ ?_
          rotate_left
          ·intro w';go_simp
           with_reducible rfl
          rotate_left
          ·simp only [Act.put,List.setIfInBounds_toArray,List.set_cons_zero,List.set_cons_succ,Xu,Xt];rfl
          refine done_ (done_of HT_.out (by kernel_rfl)) ?_
          try go_wp2
          go_roundg k1
          case measure=>have:=HK1.out;omega
          case rel=>exact ⟨(x5_1 ++ ((t255 ++ t256) ++ t257)),(wrap64 (x12_1+1)),(by first|rfl|(simp;done)|(simp [*];done)),(by first|rfl|(simp;done)|(simp [*];done)),H',⟨by have:=HK1.out;omega⟩,⟨bl_ HB⟩⟩
         ·rw [if_neg c12] at H;exact absurd H (by simp)
        ·rw [if_neg c11] at H;exact absurd H (by simp)
       ·rw [if_neg c9] at H;exact absurd H (by simp)
      ·rw [if_neg c6] at H;exact absurd H (by simp)
     ·rw [if_neg c5] at H;exact absurd H (by simp)
    ·rw [if_neg c4] at H;have c4b0:decide (x12_1<(l0.length:Int))=false:=decide_eq_false c4;clear c4;by_cases c23:x5_1.size+1≤9223372036854775807
     ·rw [if_pos c23] at H;have c23b0:=eq_true c23;have c23b1:decide (x5_1.size+1≤9223372036854775807)=true:=decide_eq_true c23
      try have c23b2:(9223372036854775807<x5_1.size+1)=False:=eq_false (Nat.not_lt.2 c23)
      obtain rfl:=Option.some.inj H;go_wp2
      go_ret
      exact ⟨rf_,bl_ HB⟩
     ·rw [if_neg c23] at H;exact absurd H (by simp)
end Go.Proofs.YtpcfebhpapdkcaaDoor.GWorld
