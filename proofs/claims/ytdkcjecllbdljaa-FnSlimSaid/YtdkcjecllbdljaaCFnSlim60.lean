import Derived.Test.YtdkcjecllbdljaaCFnSlim21
import Derived.Test.YtdkcjecllbdljaaCFnSlim41
import Derived.Test.YtdkcjecllbdljaaCFnSlim51
namespace Go.Proofs.Ytdkcjecllbdljaa.GSlim
open Go.RowKit Go.Proofs.YtdkcjecllbdljaaW.PrintWords Go.Proofs.YtdkcjecllbdljaaW.PrintLast Go.Proofs.YtdkcjecllbdljaaW.PrintMore
attribute [local go_sem] Zv Zx Un Uo Zm Zn Zw Zy
set_option linter.unusedVariables false
set_option linter.unusedSimpArgs false
attribute [local go_sem high] eqA31
def Vn.l0:Nat→List (S31)→Int→Int→Int→Option (Int)
 |0,_,_,_,_=>none
 |k+1,x0,x1,x5,x6=>if x6<(x0.length:Int) then (if 0≤x5 then (if x5<(x0.length:Int) then (if ((Xb x0 x5).f0)=7 then (Vn.l0 k x0 x1 ((Xb x0 x5).f3) (wrap64 (x6+1))) else (some x5)) else (none)) else (none)) else (if 0≤x5 then (if x5<(x0.length:Int) then (if ((Xb x0 x5).f0)=7 then (some x1) else (some x5)) else (none)) else (none))
def Vn.f (k:Nat) (l0:List (S31)) (a1:Int):Option (Int):=Vn.l0 k l0 a1 a1 0
set_option maxHeartbeats 8000000 in
set_option maxRecDepth 100000 in
theorem Vn.calls (k:Nat) (A0:Option Addr) (c0:Nat) (l0:List (S31)) (a1:Int) (r:Int) (w:World) (hr0:Kd.C k31 w A0 l0.length l0) (hc0:l0.length≤c0) (h:Vn.f k l0 a1=some r) :
  Calls Try.prog 50 #[.slice A0 l0.length c0,.int .i64 a1] w fun e w'=>e=.returned (.int .i64 r)∧Yn w w':=by
 have HR0:=Xa.mk hr0;have HC0:=Xa.mk hc0;clear hr0 hc0;have H:(Vn.l0 k l0 a1 a1 0)=some r:=h;clear h;have H':=Xa.mk H;clear H
 go_enter Try.func50,Try.ntmps50
 go_wp2
 go_loopg [5,6] k (fun kq v5 v6 w'=>∃ (x5_1:Int) (x6_1:Int),v5=.int .i64 x5_1∧v6=.int .i64 x6_1∧Xa (Vn.l0 kq l0 a1 x5_1 x6_1=some r)∧Xa (kq≤k)∧Yn w w')
 case atStart=>exact ⟨(a1),(0),(by first|rfl|(simp;done)|(simp [*];done)),(by first|rfl|(simp;done)|(simp [*];done)),H',⟨Nat.le_refl _⟩,by repeat (first|exact Yn.refl _|apply Yn.step)⟩
 case round=>
  clear H'
  try clear p2
  obtain ⟨x5_1,x6_1,rfl,rfl,HA,HK1,⟨m1,rfl⟩⟩:=hrel
  cases gk with
  |zero=>exact absurd HA.out (by simp [Vn.l0])
  |succ k1=>
   have H:=HA.out;clear HA;simp only [Vn.l0] at H;by_cases c3:x6_1<(l0.length:Int)
   ·rw [if_pos c3] at H;have c3b0:decide (x6_1<(l0.length:Int))=true:=decide_eq_true c3;clear c3;by_cases c4:0≤x5_1
    ·rw [if_pos c4] at H;have c4b0:decide (0≤x5_1)=true:=decide_eq_true c4;clear c4;by_cases c5:x5_1<(l0.length:Int)
     ·rw [if_pos c5] at H;have c5b0:decide (x5_1<(l0.length:Int))=true:=decide_eq_true c5;clear c5;by_cases c6:((Xb l0 x5_1).f0)=7
      ·rw [if_pos c6] at H;have c6b0:(((Xb l0 x5_1).f0) == 7)=true:=beq_iff_eq.mpr c6;have c6b1:(((Xb l0 x5_1).f0) != 7)=false:=bne_eq_false_iff_eq.mpr c6;clear c6;have H':=Xa.mk H;clear H;have p637:0≤(x5_1:Int):=of_decide_eq_true (by first|(with_reducible assumption)|assumption);have q637:x5_1<(l0.length:Int):=of_decide_eq_true (by first|(with_reducible assumption)|assumption);obtain ⟨ad637,e637,hx637_0,hx637_1,hx637_2,hx637_3⟩:=Zt HR0.out x5_1 p637 q637;cases e637
       replace p637:=eq_true p637;replace q637:=eq_true q637;have p638:0≤(x5_1:Int):=of_decide_eq_true (by first|(with_reducible assumption)|assumption);have q638:x5_1<(l0.length:Int):=of_decide_eq_true (by first|(with_reducible assumption)|assumption);obtain ⟨ad638,e638,hx638_0,hx638_1,hx638_2,hx638_3⟩:=Zt HR0.out x5_1 p638 q638;obtain rfl:ad637=ad638:=(by injection e638);replace p638:=eq_true p638;replace q638:=eq_true q638;go_wp2
       go_roundg k1
       case measure=>have:=HK1.out;omega
       case rel=>exact ⟨((Xb l0 x5_1).f3),(wrap64 (x6_1+1)),(by first|rfl|(simp;done)|(simp [*];done)),(by first|rfl|(simp;done)|(simp [*];done)),H',⟨by have:=HK1.out;omega⟩,by repeat (first|exact Yn.refl _|apply Yn.step)⟩
      ·rw [if_neg c6] at H;have c6b0:(((Xb l0 x5_1).f0) == 7)=false:=beq_eq_false_iff_ne.mpr c6;have c6b1:(((Xb l0 x5_1).f0) != 7)=true:=bne_iff_ne.mpr c6;obtain rfl:=Option.some.inj H;have p637:0≤(x5_1:Int):=of_decide_eq_true (by first|(with_reducible assumption)|assumption);have q637:x5_1<(l0.length:Int):=of_decide_eq_true (by first|(with_reducible assumption)|assumption);obtain ⟨ad637,e637,hx637_0,hx637_1,hx637_2,hx637_3⟩:=Zt HR0.out x5_1 p637 q637;cases e637
       replace p637:=eq_true p637;replace q637:=eq_true q637;have p639:0≤(x5_1:Int):=of_decide_eq_true (by first|(with_reducible assumption)|assumption);have q639:x5_1<(l0.length:Int):=of_decide_eq_true (by first|(with_reducible assumption)|assumption);obtain ⟨ad639,e639,hx639_0,hx639_1,hx639_2,hx639_3⟩:=Zt HR0.out x5_1 p639 q639;obtain rfl:ad637=ad639:=(by injection e639);replace p639:=eq_true p639;replace q639:=eq_true q639;go_wp2
       go_ret
       exact ⟨by first|rfl|(simp;done)|(simp [*];done),by repeat (first|exact Yn.refl _|apply Yn.step)⟩
     ·rw [if_neg c5] at H;exact absurd H (by simp)
    ·rw [if_neg c4] at H;exact absurd H (by simp)
   ·rw [if_neg c3] at H;have c3b0:decide (x6_1<(l0.length:Int))=false:=decide_eq_false c3;clear c3;by_cases c7:0≤x5_1
    ·rw [if_pos c7] at H;have c7b0:decide (0≤x5_1)=true:=decide_eq_true c7;clear c7;by_cases c8:x5_1<(l0.length:Int)
     ·rw [if_pos c8] at H;have c8b0:decide (x5_1<(l0.length:Int))=true:=decide_eq_true c8;clear c8;by_cases c9:((Xb l0 x5_1).f0)=7
      ·rw [if_pos c9] at H;have c9b0:(((Xb l0 x5_1).f0) == 7)=true:=beq_iff_eq.mpr c9;have c9b1:(((Xb l0 x5_1).f0) != 7)=false:=bne_eq_false_iff_eq.mpr c9;clear c9;obtain rfl:=Option.some.inj H;have p640:0≤(x5_1:Int):=of_decide_eq_true (by first|(with_reducible assumption)|assumption);have q640:x5_1<(l0.length:Int):=of_decide_eq_true (by first|(with_reducible assumption)|assumption);obtain ⟨ad640,e640,hx640_0,hx640_1,hx640_2,hx640_3⟩:=Zt HR0.out x5_1 p640 q640;cases e640
       replace p640:=eq_true p640;replace q640:=eq_true q640;go_wp2
       go_ret
       exact ⟨by first|rfl|(simp;done)|(simp [*];done),by repeat (first|exact Yn.refl _|apply Yn.step)⟩
      ·rw [if_neg c9] at H;have c9b0:(((Xb l0 x5_1).f0) == 7)=false:=beq_eq_false_iff_ne.mpr c9;have c9b1:(((Xb l0 x5_1).f0) != 7)=true:=bne_iff_ne.mpr c9;obtain rfl:=Option.some.inj H;have p640:0≤(x5_1:Int):=of_decide_eq_true (by first|(with_reducible assumption)|assumption);have q640:x5_1<(l0.length:Int):=of_decide_eq_true (by first|(with_reducible assumption)|assumption);obtain ⟨ad640,e640,hx640_0,hx640_1,hx640_2,hx640_3⟩:=Zt HR0.out x5_1 p640 q640;cases e640
       replace p640:=eq_true p640;replace q640:=eq_true q640;go_wp2
       go_ret
       exact ⟨by first|rfl|(simp;done)|(simp [*];done),by repeat (first|exact Yn.refl _|apply Yn.step)⟩
     ·rw [if_neg c8] at H;exact absurd H (by simp)
    ·rw [if_neg c7] at H;exact absurd H (by simp)
def Yy.l0:Nat→List (S31)→List (S31)→Int→Option ((List (S31)))
 |0,_,_,_=>none
 |k+1,x0,x3,x4=>if x4<(x3.length:Int) then (if 0≤x4 then (if ((Xb x3 x4).f0)=7 then (if x4<(x0.length:Int) then ((Vn.f k x0 ((Xb x0 x4).f3)).bind fun t653=>(Yy.l0 k x0 (x3.set (x4:Int).toNat (⟨(Xb x3 x4).f0,(Xb x3 x4).f1,(Xb x3 x4).f2,t653⟩:S31)) (wrap64 (x4+1)))) else (none)) else (if ((Xb x3 x4).f0)=6 then (if x4<(x0.length:Int) then ((Vn.f k x0 ((Xb x0 x4).f3)).bind fun t657=>(Yy.l0 k x0 (x3.set (x4:Int).toNat (⟨(Xb x3 x4).f0,(Xb x3 x4).f1,(Xb x3 x4).f2,t657⟩:S31)) (wrap64 (x4+1)))) else (none)) else (Yy.l0 k x0 x3 (wrap64 (x4+1))))) else (none)) else (some x3)
def Yy.f (k:Nat) (l0:List (S31)):Option ((List (S31))):=(Yb.f k l0).bind fun t641=>(if t641=true then ((some (([]:List (S31)):List (S31))).bind fun y645=>(if y645.length+l0.length<4398046511104 then (Yy.l0 k l0 (y645 ++ l0) 0) else (none))) else (some (([]:List (S31)))))
set_option maxHeartbeats 8000000 in
set_option maxRecDepth 100000 in
theorem Yy.calls (k:Nat) (A0:Option Addr) (c0:Nat) (l0:List (S31)) (r:List (S31)) (w:World) (hr0:Kd.C k31 w A0 l0.length l0) (hc0:l0.length≤c0) (h:Yy.f k l0=some r) :
  Calls Try.prog 30 #[.slice A0 l0.length c0] w fun e w'=>∃ v0_:Value,e=.returned (v0_)∧Kd.R k31 31 w' w.heap.size (fun _=>True) v0_ r∧Below w.heap.size w w':=by
 have HR0:=Xa.mk hr0;have HC0:=Xa.mk hc0;clear hr0 hc0;have HB:=Xa.mk (Below.refl w.heap.size w);have H:((Yb.f k l0).bind fun t641=>(if t641=true then ((some (([]:List (S31)):List (S31))).bind fun y645=>(if y645.length+l0.length<4398046511104 then (Yy.l0 k l0 (y645 ++ l0) 0) else (none))) else (some (([]:List (S31))))))=some r:=h;clear h;replace H:=Option.bind_eq_some_iff.mp H;obtain ⟨t641,A20,H⟩:=H;replace H:(if t641=true then ((some (([]:List (S31)):List (S31))).bind fun y645=>(if y645.length+l0.length<4398046511104 then (Yy.l0 k l0 (y645 ++ l0) 0) else (none))) else (some (([]:List (S31)))))=some r:=H;have A2:=Xa.mk A20;clear A20;by_cases c3:t641=true
 ·subst c3
  have H1:((some (([]:List (S31)):List (S31))).bind fun y645=>(if y645.length+l0.length<4398046511104 then (Yy.l0 k l0 (y645 ++ l0) 0) else (none)))=some r:=by rw [if_pos rfl] at H;exact H
  clear H;have H:=H1;clear H1;obtain ⟨y645,hy645⟩:∃ y_:List (S31),y_=(([]:List (S31))):=⟨_,rfl⟩
  replace H:(if y645.length+l0.length<4398046511104 then (Yy.l0 k l0 (y645 ++ l0) 0) else (none))=some r:=by subst hy645;first|with_reducible exact H|(have z:=(Option.bind_some _ _).symm.trans H;with_reducible exact z)|exact H
  have Ny645:=Xa.mk hy645;clear hy645;by_cases c4:y645.length+l0.length<4398046511104
  ·rw [if_pos c4] at H;have LMc4:=Xa.mk c4;clear c4;obtain ⟨y648,hy648⟩:∃ y_:List (S31),y_=(y645 ++ l0):=⟨_,rfl⟩
   replace H:(Yy.l0 k l0 y648 0)=some r:=by subst hy648;first|with_reducible exact H|(have z:=(Option.bind_some _ _).symm.trans H;with_reducible exact z)|exact H
   have Ny648:=Xa.mk hy648;clear hy648;have H':=Xa.mk H;clear H
   go_enter Try.func30,Try.ntmps30
   go_wp2_with (first|((with_reducible refine Xf (f:=10) rfl ?_);refine Yf (some 6) rfl rfl Try.func10 (by kernel_rfl) rfl #[.slice A0 l0.length c0] rfl ga_ ?_;(with_reducible refine (Yb.calls k _ _ l0 true _ ?side1 ?side2 A2.out).mono ?_);(case side1=>repeat (first|exact HR0.out|(with_reducible refine Kd.Xq ?_ _)|(with_reducible refine Kd.Xr ?_ _)|(with_reducible refine Kd.Yc ?_)));(case side2=>exact HC0.out);rintro e w5 ⟨rfl,hb⟩;refine ⟨_,rfl,?_⟩;have n0_:=Xa.mk (Xd (bl_ HB) hb);clear HB;have HB:=n0_;clear n0_;(try clear hb);(try clear hb2);(try clear hk);(try clear hi))|((with_reducible refine Xx (N:=9) rfl ?_);refine Kd.Vq k31 _ 31 ?hg (N:=9) ?hd (xs:=([]:List (S31))) (inner:=[]) (ok:=fun _=>True) (okp:=fun _=>True) ?hr ?hp (fun _ hk=>hk) trivial (Below.refl _ _) (Nat.le_refl _) (by simp) ?_;(case hd=>rfl);(case hg=>rfl);(case hr=>first|(go_simp;done)|(go_simp;rfl));(case hp=>exact (Yl.none _ _));intro v646 w6 ho7 hb hg_ hnew_;clear hg_ hnew_;(first|rw [← Ny645.out] at ho7|(simp only [Int.reduceToNat] at ho7;rw [← Ny645.out] at ho7));have n0_:=Xa.mk (Kd.Yg ho7 (Xc (bl_ HB)));have n1_:=Xa.mk (Xd (bl_ HB) hb);clear HB;have HO647:=n0_;have HB:=n1_;clear n0_ n1_;clear hb ho7)|((with_reducible refine Yp (b:=.append) (xs:=#[.tmp 9,.tmp 10]) rfl ?_);at_builtin;refine Kd.Vs k31 (w0:=w) w.heap.size rfl (.tmp 9) (.tmp 10) 23 31 (.agg #[(.int .i64 0),(.int .i64 0),(.int .i64 0),(.int .i64 0)]) 32 rfl Try.underlying23 Vf rfl (by decide) (by omega) v646 y645 l0 _ _ _ (fun _=>True) (fun _=>False) rfl rfl ?aO ?aR (fun _ _ h=>h) (fun _ h=>h.elim) ?aF ?aB ?aS ?aL ?_;(case aR=>repeat (first|exact (Kd.Zi HR0.out HB.out)|(with_reducible refine Kd.Xq ?_ _)|(with_reducible refine Kd.Xr ?_ _)|(with_reducible refine Kd.Yc ?_)));(case aB=>exact (bl_ HB));(case aF=>exact (fun _ _=>trivial));(case aO=>exact (Kd.ra_ (HO647.out)));(case aS=>exact (Xc (bl_ HB)));(case aL=>have:=LMc4.out;omega);intro v649 w8 ho hb hg hat;rw [← Ny648.out] at ho;have n0_:=Xa.mk (hb);have n1_:=Xa.mk (ho);clear HB;clear HO647;have HB:=n0_;have HO650:=n1_;clear n0_ n1_;clear ho hb hg hat))
   go_loopg [4] k (fun kq v4 w'=>∃ (x3_1:List (S31)) (x4_1:Int),v4=.int .i64 x4_1∧Xa (Yy.l0 kq l0 x3_1 x4_1=some r)∧Xa (kq≤k)∧Xa (Kd.R k31 31 w' w.heap.size (fun _=>True) v649 x3_1)∧Xa (Below w.heap.size w w'))
   case atStart=>exact ⟨(y648),(0),(by first|rfl|(simp;done)|(simp [*];done)),H',⟨Nat.le_refl _⟩,⟨Kd.ra_ (HO650.out)⟩,⟨bl_ HB⟩⟩
   case round=>
    clear H'
    try clear c1
    try clear p2
    try clear c3
    try clear c4
    obtain ⟨x3_1,x4_1,rfl,HA,HK1,HO_3,HB⟩:=hrel
    cases gk with
    |zero=>exact absurd HA.out (by simp [Yy.l0])
    |succ k1=>
     have H:=HA.out;clear HA;simp only [Yy.l0] at H;by_cases c9:x4_1<(x3_1.length:Int)
     ·rw [if_pos c9] at H;have c9b0:decide (x4_1<(x3_1.length:Int))=true:=decide_eq_true c9;clear c9;by_cases c10:0≤x4_1
      ·rw [if_pos c10] at H;have c10b0:decide (0≤x4_1)=true:=decide_eq_true c10;clear c10;by_cases c11:((Xb x3_1 x4_1).f0)=7
       ·rw [if_pos c11] at H;have c11b0:(((Xb x3_1 x4_1).f0) == 7)=true:=beq_iff_eq.mpr c11;have c11b1:(((Xb x3_1 x4_1).f0) != 7)=false:=bne_eq_false_iff_eq.mpr c11;clear c11;by_cases c12:x4_1<(l0.length:Int)
        ·rw [if_pos c12] at H;have c12b0:decide (x4_1<(l0.length:Int))=true:=decide_eq_true c12;clear c12;replace H:=Option.bind_eq_some_iff.mp H;obtain ⟨t653,A130,H⟩:=H;replace H:(Yy.l0 k1 l0 (x3_1.set (x4_1:Int).toNat (⟨(Xb x3_1 x4_1).f0,(Xb x3_1 x4_1).f1,(Xb x3_1 x4_1).f2,t653⟩:S31)) (wrap64 (x4_1+1)))=some r:=H;have A13:=Xa.mk A130;clear A130;obtain ⟨y654,hy654⟩:∃ y_:List (S31),y_=(x3_1.set (x4_1:Int).toNat (⟨(Xb x3_1 x4_1).f0,(Xb x3_1 x4_1).f1,(Xb x3_1 x4_1).f2,t653⟩:S31)):=⟨_,rfl⟩
         replace H:(Yy.l0 k1 l0 y654 (wrap64 (x4_1+1)))=some r:=by subst hy654;first|with_reducible exact H|(have z:=(Option.bind_some _ _).symm.trans H;with_reducible exact z)|exact H
         have Ny654:=Xa.mk hy654;clear hy654;have H':=Xa.mk H;clear H;obtain ⟨Ao15,co15,eo15⟩:=Kd.Yr HO_3.out;subst eo15;have p651:0≤(x4_1:Int):=of_decide_eq_true (by first|(with_reducible assumption)|assumption);have q651:x4_1<(x3_1.length:Int):=of_decide_eq_true (by first|(with_reducible assumption)|assumption);obtain ⟨ad651,e651,hx651_0,hx651_1,hx651_2,hx651_3⟩:=Zt (Kd.R_reads' HO_3.out).2.2 x4_1 p651 q651;cases e651
         replace p651:=eq_true p651;replace q651:=eq_true q651;have p652:0≤(x4_1:Int):=of_decide_eq_true (by first|(with_reducible assumption)|assumption);have q652:x4_1<(l0.length:Int):=of_decide_eq_true (by first|(with_reducible assumption)|assumption);obtain ⟨ad652,e652,hx652_0,hx652_1,hx652_2,hx652_3⟩:=Zt HR0.out x4_1 p652 q652;cases e652
         replace hx652_0:=(HB.out.cell (World.block_lt_of_cell? w _ hx652_0)).trans hx652_0;replace hx652_1:=(HB.out.cell (World.block_lt_of_cell? w _ hx652_1)).trans hx652_1;replace hx652_2:=(HB.out.cell (World.block_lt_of_cell? w _ hx652_2)).trans hx652_2;replace hx652_3:=(HB.out.cell (World.block_lt_of_cell? w _ hx652_3)).trans hx652_3;replace p652:=eq_true p652;replace q652:=eq_true q652;go_wp2_with (first|((with_reducible refine Xf (f:=50) rfl ?_);refine Yf (some 40) rfl rfl Try.func50 (by kernel_rfl) rfl #[.slice (some ad652) l0.length c0,.int .i64 ((Xb l0 x4_1).f3)] rfl ga_ ?_;(with_reducible refine (Vn.calls k1 _ _ l0 ((Xb l0 x4_1).f3) t653 _ ?side1 ?side2 A13.out).mono ?_);(case side1=>repeat (first|exact (Kd.Zi HR0.out HB.out)|(with_reducible refine Kd.Xq ?_ _)|(with_reducible refine Kd.Xr ?_ _)|(with_reducible refine Kd.Yc ?_)));(case side2=>exact HC0.out);rintro e w' ⟨rfl,⟨nd,rfl⟩⟩;refine ⟨_,rfl,?_⟩;(try (rw [drewN_self wr];generalize hq_:World.drewN wr _=wr;have n0_:Xa (Kd.R k31 31 wr w.heap.size (fun _=>True) (.slice (some ad651) x3_1.length co15) x3_1):=⟨by rw [← hq_];exact (Kd.ra_ (HO_3.out))⟩;have n1_:Xa (Below w.heap.size w wr):=⟨by rw [← hq_];exact (bl_ HB)⟩;clear HO_3 HB hq_;have HO_3:=n0_;have HB:=n1_;clear n0_ n1_));have p14:0≤(x4_1:Int):=of_decide_eq_true (by first|(with_reducible assumption)|assumption);have q14:(x4_1:Int)<((x3_1.length:Int):Int):=of_decide_eq_true (by first|(with_reducible assumption)|assumption);obtain ⟨go14,co14,eo14,gb14,gl14,cl14,HG14⟩:=Kd.R_form HO_3.out (by omega);(first|cases eo14|(injection eo14 with ea_ en_ ec_;(first|subst ea_|(injection ea_ with ea_;subst ea_));subst ec_;clear en_));have GB14:=Xa.mk gb14;have GG14:=Xa.mk HG14;clear gb14 gl14 HG14;(first|simp only [add_plain] at hx651_0|skip);(first|simp only [add_plain] at hx651_1|skip);(first|simp only [add_plain] at hx651_2|skip);(first|simp only [add_plain] at hx651_3|skip);obtain ⟨ce14,hcl14,hM14,hcc14,hfr14⟩:=Kd.R_elem HO_3.out z31 (x4_1:Int) p14 q14;obtain rfl:=k31_openM hM14;have hx14_0:wr.cell? ⟨go14,(x4_1:Int).toNat * 4,none⟩=some (.int .i64 ((Xb x3_1 x4_1).f0)):=hcc14 0 _ rfl;have hx14_1:wr.cell? ⟨go14,(x4_1:Int).toNat * 4+1,none⟩=some (.int .i64 ((Xb x3_1 x4_1).f1)):=hcc14 1 _ rfl;have hx14_2:wr.cell? ⟨go14,(x4_1:Int).toNat * 4+2,none⟩=some (.int .i64 ((Xb x3_1 x4_1).f2)):=hcc14 2 _ rfl;have hx14_3:wr.cell? ⟨go14,(x4_1:Int).toNat * 4+3,none⟩=some (.int .i64 ((Xb x3_1 x4_1).f3)):=hcc14 3 _ rfl;have hf14_0:wr.frozen? ⟨go14,(x4_1:Int).toNat * 4,none⟩=false:=hfr14 0;have hf14_1:wr.frozen? ⟨go14,(x4_1:Int).toNat * 4+1,none⟩=false:=hfr14 1;have hf14_2:wr.frozen? ⟨go14,(x4_1:Int).toNat * 4+2,none⟩=false:=hfr14 2;have hf14_3:wr.frozen? ⟨go14,(x4_1:Int).toNat * 4+3,none⟩=false:=hfr14 3;clear hcl14 hcc14 hfr14 hM14;replace p14:=eq_true p14;replace q14:=eq_true q14;have HX16:=Xa.mk (show Kd.R k31 31 wr w.heap.size (fun _=>True) (.slice (some ⟨go14,0,none⟩) x3_1.length co15) x3_1 from (Kd.ra_ (HO_3.out)));obtain ⟨ce16,hcl16,hM16,hcc16,hfr16⟩:=Kd.R_elem HX16.out z31 (x4_1:Int) (of_decide_eq_true (by first|(with_reducible assumption)|assumption)) (by have h_:(x4_1:Int)<((x3_1.length:Int):Int):=of_decide_eq_true (by first|(with_reducible assumption)|assumption);first|exact h_|(have e_:=(Kd.R_reads' HO_3.out).1;omega)|simpa using h_);obtain rfl:=k31_openM hM16;have HP16:=Kd.R_seg HX16.out (x4_1:Int) (of_decide_eq_true (by first|(with_reducible assumption)|assumption)) (by have h_:(x4_1:Int)<((x3_1.length:Int):Int):=of_decide_eq_true (by first|(with_reducible assumption)|assumption);first|exact h_|(have e_:=(Kd.R_reads' HO_3.out).1;omega)|simpa using h_) (seg:=[.int .i64 t653]) (j:=3) hcl16 hcc16 (show 4≤4 from by decide) (x':=(⟨(Xb x3_1 x4_1).f0,(Xb x3_1 x4_1).f1,(Xb x3_1 x4_1).f2,t653⟩:S31)) (Us _ _ _ (⟨(Xb x3_1 x4_1).f0,(Xb x3_1 x4_1).f1,(Xb x3_1 x4_1).f2,t653⟩:S31) ) (fun _ hk=>hk);have hx16_3:=hcc16 3 _ rfl;(try simp only [show (k31).sz=4 from rfl,Nat.mul_one,Nat.add_zero] at hx16_3);have hf16_3:=hfr16 3;(try simp only [show (k31).sz=4 from rfl,Nat.mul_one,Nat.add_zero] at hf16_3);clear hcl16 hcc16 hfr16 hM16)|((with_reducible refine gate_store (t:=3) (p:=42) rfl ?_);refine Wh (t:=3) (p:=42) (v:=?vo_w17) (w1:=(wr.setCell ⟨go14,(x4_1:Int).toNat * 4+3,none⟩ (.int .i64 t653))) ?hg ?ho ?hn ?hr ?_;(case ho=>rfl);(case hg=>rfl);(case hn=>rfl);(case hr=>first|(go_simp;done)|(go_simp;rfl));intro w17 hw;have hg:wr.grownBy w17 (some go14):=(by rw [hw];exact HP16.2);have hp_:Kd.R k31 31 w17 w.heap.size (fun _=>True) (.slice (some ⟨go14,0,none⟩) x3_1.length co15) y654:=(by rw [hw,Ny654.out];exact HP16.1);clear HP16;have n0_:=Xa.mk (hp_);have n1_:=Xa.mk ((by rw [hw];exact below_set (HB.out) GB14.out:Below w.heap.size w w17));clear HO_3;clear HB;have HO_3:=n0_;have HB:=n1_;clear n0_ n1_;clear hg hw hp_))
         go_roundg k1
         case measure=>have:=HK1.out;omega
         case rel=>exact ⟨(y654),(wrap64 (x4_1+1)),(by first|rfl|(simp;done)|(simp [*];done)),H',⟨by have:=HK1.out;omega⟩,⟨Kd.ra_ (HO_3.out)⟩,⟨bl_ HB⟩⟩
        ·rw [if_neg c12] at H;exact absurd H (by simp)
       ·rw [if_neg c11] at H;have c11b0:(((Xb x3_1 x4_1).f0) == 7)=false:=beq_eq_false_iff_ne.mpr c11;have c11b1:(((Xb x3_1 x4_1).f0) != 7)=true:=bne_iff_ne.mpr c11;by_cases c18:((Xb x3_1 x4_1).f0)=6
        ·rw [if_pos c18] at H;have c18b0:(((Xb x3_1 x4_1).f0) == 6)=true:=beq_iff_eq.mpr c18;have c18b1:(((Xb x3_1 x4_1).f0) != 6)=false:=bne_eq_false_iff_eq.mpr c18;clear c18;by_cases c19:x4_1<(l0.length:Int)
         ·rw [if_pos c19] at H;have c19b0:decide (x4_1<(l0.length:Int))=true:=decide_eq_true c19;clear c19;replace H:=Option.bind_eq_some_iff.mp H;obtain ⟨t657,A200,H⟩:=H;replace H:(Yy.l0 k1 l0 (x3_1.set (x4_1:Int).toNat (⟨(Xb x3_1 x4_1).f0,(Xb x3_1 x4_1).f1,(Xb x3_1 x4_1).f2,t657⟩:S31)) (wrap64 (x4_1+1)))=some r:=H;have A20:=Xa.mk A200;clear A200;obtain ⟨y658,hy658⟩:∃ y_:List (S31),y_=(x3_1.set (x4_1:Int).toNat (⟨(Xb x3_1 x4_1).f0,(Xb x3_1 x4_1).f1,(Xb x3_1 x4_1).f2,t657⟩:S31)):=⟨_,rfl⟩
          replace H:(Yy.l0 k1 l0 y658 (wrap64 (x4_1+1)))=some r:=by subst hy658;first|with_reducible exact H|(have z:=(Option.bind_some _ _).symm.trans H;with_reducible exact z)|exact H
          have Ny658:=Xa.mk hy658;clear hy658;have H':=Xa.mk H;clear H;obtain ⟨Ao22,co22,eo22⟩:=Kd.Yr HO_3.out;subst eo22;have p651:0≤(x4_1:Int):=of_decide_eq_true (by first|(with_reducible assumption)|assumption);have q651:x4_1<(x3_1.length:Int):=of_decide_eq_true (by first|(with_reducible assumption)|assumption);obtain ⟨ad651,e651,hx651_0,hx651_1,hx651_2,hx651_3⟩:=Zt (Kd.R_reads' HO_3.out).2.2 x4_1 p651 q651;cases e651
          replace p651:=eq_true p651;replace q651:=eq_true q651;have p655:0≤(x4_1:Int):=of_decide_eq_true (by first|(with_reducible assumption)|assumption);have q655:x4_1<(x3_1.length:Int):=of_decide_eq_true (by first|(with_reducible assumption)|assumption);obtain ⟨ad655,e655,hx655_0,hx655_1,hx655_2,hx655_3⟩:=Zt (Kd.R_reads' HO_3.out).2.2 x4_1 p655 q655;obtain rfl:ad651=ad655:=(by injection e655);replace p655:=eq_true p655;replace q655:=eq_true q655;have p656:0≤(x4_1:Int):=of_decide_eq_true (by first|(with_reducible assumption)|assumption);have q656:x4_1<(l0.length:Int):=of_decide_eq_true (by first|(with_reducible assumption)|assumption);obtain ⟨ad656,e656,hx656_0,hx656_1,hx656_2,hx656_3⟩:=Zt HR0.out x4_1 p656 q656;cases e656
          replace hx656_0:=(HB.out.cell (World.block_lt_of_cell? w _ hx656_0)).trans hx656_0;replace hx656_1:=(HB.out.cell (World.block_lt_of_cell? w _ hx656_1)).trans hx656_1;replace hx656_2:=(HB.out.cell (World.block_lt_of_cell? w _ hx656_2)).trans hx656_2;replace hx656_3:=(HB.out.cell (World.block_lt_of_cell? w _ hx656_3)).trans hx656_3;replace p656:=eq_true p656;replace q656:=eq_true q656;go_wp2_with (first|((with_reducible refine Xf (f:=50) rfl ?_);refine Yf (some 40) rfl rfl Try.func50 (by kernel_rfl) rfl #[.slice (some ad656) l0.length c0,.int .i64 ((Xb l0 x4_1).f3)] rfl ga_ ?_;(with_reducible refine (Vn.calls k1 _ _ l0 ((Xb l0 x4_1).f3) t657 _ ?side1 ?side2 A20.out).mono ?_);(case side1=>repeat (first|exact (Kd.Zi HR0.out HB.out)|(with_reducible refine Kd.Xq ?_ _)|(with_reducible refine Kd.Xr ?_ _)|(with_reducible refine Kd.Yc ?_)));(case side2=>exact HC0.out);rintro e w' ⟨rfl,⟨nd,rfl⟩⟩;refine ⟨_,rfl,?_⟩;(try (rw [drewN_self wr];generalize hq_:World.drewN wr _=wr;have n0_:Xa (Kd.R k31 31 wr w.heap.size (fun _=>True) (.slice (some ad651) x3_1.length co22) x3_1):=⟨by rw [← hq_];exact (Kd.ra_ (HO_3.out))⟩;have n1_:Xa (Below w.heap.size w wr):=⟨by rw [← hq_];exact (bl_ HB)⟩;clear HO_3 HB hq_;have HO_3:=n0_;have HB:=n1_;clear n0_ n1_));have p21:0≤(x4_1:Int):=of_decide_eq_true (by first|(with_reducible assumption)|assumption);have q21:(x4_1:Int)<((x3_1.length:Int):Int):=of_decide_eq_true (by first|(with_reducible assumption)|assumption);obtain ⟨go21,co21,eo21,gb21,gl21,cl21,HG21⟩:=Kd.R_form HO_3.out (by omega);(first|cases eo21|(injection eo21 with ea_ en_ ec_;(first|subst ea_|(injection ea_ with ea_;subst ea_));subst ec_;clear en_));have GB21:=Xa.mk gb21;have GG21:=Xa.mk HG21;clear gb21 gl21 HG21;(first|simp only [add_plain] at hx651_0|skip);(first|simp only [add_plain] at hx651_1|skip);(first|simp only [add_plain] at hx651_2|skip);(first|simp only [add_plain] at hx651_3|skip);(first|simp only [add_plain] at hx655_0|skip);(first|simp only [add_plain] at hx655_1|skip);(first|simp only [add_plain] at hx655_2|skip);(first|simp only [add_plain] at hx655_3|skip);obtain ⟨ce21,hcl21,hM21,hcc21,hfr21⟩:=Kd.R_elem HO_3.out z31 (x4_1:Int) p21 q21;obtain rfl:=k31_openM hM21;have hx21_0:wr.cell? ⟨go21,(x4_1:Int).toNat * 4,none⟩=some (.int .i64 ((Xb x3_1 x4_1).f0)):=hcc21 0 _ rfl;have hx21_1:wr.cell? ⟨go21,(x4_1:Int).toNat * 4+1,none⟩=some (.int .i64 ((Xb x3_1 x4_1).f1)):=hcc21 1 _ rfl;have hx21_2:wr.cell? ⟨go21,(x4_1:Int).toNat * 4+2,none⟩=some (.int .i64 ((Xb x3_1 x4_1).f2)):=hcc21 2 _ rfl;have hx21_3:wr.cell? ⟨go21,(x4_1:Int).toNat * 4+3,none⟩=some (.int .i64 ((Xb x3_1 x4_1).f3)):=hcc21 3 _ rfl;have hf21_0:wr.frozen? ⟨go21,(x4_1:Int).toNat * 4,none⟩=false:=hfr21 0;have hf21_1:wr.frozen? ⟨go21,(x4_1:Int).toNat * 4+1,none⟩=false:=hfr21 1;have hf21_2:wr.frozen? ⟨go21,(x4_1:Int).toNat * 4+2,none⟩=false:=hfr21 2;have hf21_3:wr.frozen? ⟨go21,(x4_1:Int).toNat * 4+3,none⟩=false:=hfr21 3;clear hcl21 hcc21 hfr21 hM21;replace p21:=eq_true p21;replace q21:=eq_true q21;have HX23:=Xa.mk (show Kd.R k31 31 wr w.heap.size (fun _=>True) (.slice (some ⟨go21,0,none⟩) x3_1.length co22) x3_1 from (Kd.ra_ (HO_3.out)));obtain ⟨ce23,hcl23,hM23,hcc23,hfr23⟩:=Kd.R_elem HX23.out z31 (x4_1:Int) (of_decide_eq_true (by first|(with_reducible assumption)|assumption)) (by have h_:(x4_1:Int)<((x3_1.length:Int):Int):=of_decide_eq_true (by first|(with_reducible assumption)|assumption);first|exact h_|(have e_:=(Kd.R_reads' HO_3.out).1;omega)|simpa using h_);obtain rfl:=k31_openM hM23;have HP23:=Kd.R_seg HX23.out (x4_1:Int) (of_decide_eq_true (by first|(with_reducible assumption)|assumption)) (by have h_:(x4_1:Int)<((x3_1.length:Int):Int):=of_decide_eq_true (by first|(with_reducible assumption)|assumption);first|exact h_|(have e_:=(Kd.R_reads' HO_3.out).1;omega)|simpa using h_) (seg:=[.int .i64 t657]) (j:=3) hcl23 hcc23 (show 4≤4 from by decide) (x':=(⟨(Xb x3_1 x4_1).f0,(Xb x3_1 x4_1).f1,(Xb x3_1 x4_1).f2,t657⟩:S31)) (Us _ _ _ (⟨(Xb x3_1 x4_1).f0,(Xb x3_1 x4_1).f1,(Xb x3_1 x4_1).f2,t657⟩:S31) ) (fun _ hk=>hk);have hx23_3:=hcc23 3 _ rfl;(try simp only [show (k31).sz=4 from rfl,Nat.mul_one,Nat.add_zero] at hx23_3);have hf23_3:=hfr23 3;(try simp only [show (k31).sz=4 from rfl,Nat.mul_one,Nat.add_zero] at hf23_3);clear hcl23 hcc23 hfr23 hM23)|((with_reducible refine gate_store (t:=3) (p:=42) rfl ?_);refine Wh (t:=3) (p:=42) (v:=?vo_w24) (w1:=(wr.setCell ⟨go21,(x4_1:Int).toNat * 4+3,none⟩ (.int .i64 t657))) ?hg ?ho ?hn ?hr ?_;(case ho=>rfl);(case hg=>rfl);(case hn=>rfl);(case hr=>first|(go_simp;done)|(go_simp;rfl));intro w24 hw;have hg:wr.grownBy w24 (some go21):=(by rw [hw];exact HP23.2);have hp_:Kd.R k31 31 w24 w.heap.size (fun _=>True) (.slice (some ⟨go21,0,none⟩) x3_1.length co22) y658:=(by rw [hw,Ny658.out];exact HP23.1);clear HP23;have n0_:=Xa.mk (hp_);have n1_:=Xa.mk ((by rw [hw];exact below_set (HB.out) GB21.out:Below w.heap.size w w24));clear HO_3;clear HB;have HO_3:=n0_;have HB:=n1_;clear n0_ n1_;clear hg hw hp_))
          go_roundg k1
          case measure=>have:=HK1.out;omega
          case rel=>exact ⟨(y658),(wrap64 (x4_1+1)),(by first|rfl|(simp;done)|(simp [*];done)),H',⟨by have:=HK1.out;omega⟩,⟨Kd.ra_ (HO_3.out)⟩,⟨bl_ HB⟩⟩
         ·rw [if_neg c19] at H;exact absurd H (by simp)
        ·rw [if_neg c18] at H;have c18b0:(((Xb x3_1 x4_1).f0) == 6)=false:=beq_eq_false_iff_ne.mpr c18;have c18b1:(((Xb x3_1 x4_1).f0) != 6)=true:=bne_iff_ne.mpr c18;have H':=Xa.mk H;clear H;obtain ⟨Ao25,co25,eo25⟩:=Kd.Yr HO_3.out;subst eo25;have p651:0≤(x4_1:Int):=of_decide_eq_true (by first|(with_reducible assumption)|assumption);have q651:x4_1<(x3_1.length:Int):=of_decide_eq_true (by first|(with_reducible assumption)|assumption);obtain ⟨ad651,e651,hx651_0,hx651_1,hx651_2,hx651_3⟩:=Zt (Kd.R_reads' HO_3.out).2.2 x4_1 p651 q651;cases e651
         replace p651:=eq_true p651;replace q651:=eq_true q651;have p655:0≤(x4_1:Int):=of_decide_eq_true (by first|(with_reducible assumption)|assumption);have q655:x4_1<(x3_1.length:Int):=of_decide_eq_true (by first|(with_reducible assumption)|assumption);obtain ⟨ad655,e655,hx655_0,hx655_1,hx655_2,hx655_3⟩:=Zt (Kd.R_reads' HO_3.out).2.2 x4_1 p655 q655;obtain rfl:ad651=ad655:=(by injection e655);replace p655:=eq_true p655;replace q655:=eq_true q655;go_wp2
         go_roundg k1
         case measure=>have:=HK1.out;omega
         case rel=>exact ⟨(x3_1),(wrap64 (x4_1+1)),(by first|rfl|(simp;done)|(simp [*];done)),H',⟨by have:=HK1.out;omega⟩,⟨Kd.ra_ (HO_3.out)⟩,⟨bl_ HB⟩⟩
      ·rw [if_neg c10] at H;exact absurd H (by simp)
     ·rw [if_neg c9] at H;have c9b0:decide (x4_1<(x3_1.length:Int))=false:=decide_eq_false c9;clear c9;obtain rfl:=Option.some.inj H;obtain ⟨Ao26,co26,eo26⟩:=Kd.Yr HO_3.out;subst eo26;go_wp2
      go_ret
      exact ⟨_,rf_,Kd.ra_ (HO_3.out),bl_ HB⟩
  ·rw [if_neg c4] at H;exact absurd H (by simp)
 ·replace c3:=Bool.eq_false_iff.mpr c3;subst c3
  have H1:(some (([]:List (S31))))=some r:=by rw [if_neg (show ¬ (false=true) by decide)] at H;exact H
  clear H;have H:=H1;clear H1;obtain ⟨y642,hy642⟩:∃ y_:List (S31),y_=(([]:List (S31))):=⟨_,rfl⟩
  replace H:(some y642)=some r:=by subst hy642;first|with_reducible exact H|(have z:=(Option.bind_some _ _).symm.trans H;with_reducible exact z)|exact H
  have Ny642:=Xa.mk hy642;clear hy642;obtain rfl:=Option.some.inj H
  go_enter Try.func30,Try.ntmps30
  go_wp2_with (first|((with_reducible refine Xf (f:=10) rfl ?_);refine Yf (some 6) rfl rfl Try.func10 (by kernel_rfl) rfl #[.slice A0 l0.length c0] rfl ga_ ?_;(with_reducible refine (Yb.calls k _ _ l0 false _ ?side1 ?side2 A2.out).mono ?_);(case side1=>repeat (first|exact HR0.out|(with_reducible refine Kd.Xq ?_ _)|(with_reducible refine Kd.Xr ?_ _)|(with_reducible refine Kd.Yc ?_)));(case side2=>exact HC0.out);rintro e w27 ⟨rfl,hb⟩;refine ⟨_,rfl,?_⟩;have n0_:=Xa.mk (Xd (bl_ HB) hb);clear HB;have HB:=n0_;clear n0_;(try clear hb);(try clear hb2);(try clear hk);(try clear hi))|((with_reducible refine Xx (N:=8) rfl ?_);refine Kd.Vq k31 _ 31 ?hg (N:=8) ?hd (xs:=([]:List (S31))) (inner:=[]) (ok:=fun _=>True) (okp:=fun _=>True) ?hr ?hp (fun _ hk=>hk) trivial (Below.refl _ _) (Nat.le_refl _) (by simp) ?_;(case hd=>rfl);(case hg=>rfl);(case hr=>first|(go_simp;done)|(go_simp;rfl));(case hp=>exact (Yl.none _ _));intro v643 w28 ho29 hb hg_ hnew_;clear hg_ hnew_;(first|rw [← Ny642.out] at ho29|(simp only [Int.reduceToNat] at ho29;rw [← Ny642.out] at ho29));have n0_:=Xa.mk (Kd.Yg ho29 (Xc (bl_ HB)));have n1_:=Xa.mk (Xd (bl_ HB) hb);clear HB;have HO644:=n0_;have HB:=n1_;clear n0_ n1_;clear hb ho29))
  go_ret
  exact ⟨_,rf_,Kd.ra_ (HO644.out),bl_ HB⟩
def Zq.l0:Nat→List (S31)→List (S31)→Int→Option (Bool)
 |0,_,_,_=>none
 |k+1,x0,x1,x5=>if x5<(x0.length:Int) then (if 0≤x5 then (if x5<(x1.length:Int) then (if (!(((Xb x0 x5).f0) == ((Xb x1 x5).f0))||(!(((Xb x0 x5).f1) == ((Xb x1 x5).f1))||(!(((Xb x0 x5).f2) == ((Xb x1 x5).f2))||(!(((Xb x0 x5).f3) == ((Xb x1 x5).f3))))))=true then (some false) else (Zq.l0 k x0 x1 (wrap64 (x5+1)))) else (none)) else (none)) else (some true)
def Zq.f (k:Nat) (l0:List (S31)) (l1:List (S31)):Option (Bool):=if (l0.length:Int)=(l1.length:Int) then (Zq.l0 k l0 l1 0) else (some false)
set_option maxHeartbeats 8000000 in
set_option maxRecDepth 100000 in
theorem Zq.calls (k:Nat) (A0:Option Addr) (c0:Nat) (l0:List (S31)) (A1:Option Addr) (c1:Nat) (l1:List (S31)) (r:Bool) (w:World) (hr0:Kd.C k31 w A0 l0.length l0) (hc0:l0.length≤c0) (hr1:Kd.C k31 w A1 l1.length l1) (hc1:l1.length≤c1) (h:Zq.f k l0 l1=some r) :
  Calls Try.prog 31 #[.slice A0 l0.length c0,.slice A1 l1.length c1] w fun e w'=>e=.returned (.bool r)∧Yn w w':=by
 have hu31:=Try.underlying31;have HR0:=Xa.mk hr0;have HC0:=Xa.mk hc0;clear hr0 hc0;have HR1:=Xa.mk hr1;have HC1:=Xa.mk hc1;clear hr1 hc1;have H:(if (l0.length:Int)=(l1.length:Int) then (Zq.l0 k l0 l1 0) else (some false))=some r:=h;clear h;by_cases c3:(l0.length:Int)=(l1.length:Int)
 ·rw [if_pos c3] at H;have c3b0:((l0.length:Int) == (l1.length:Int))=true:=beq_iff_eq.mpr c3;have c3b1:((l0.length:Int) != (l1.length:Int))=false:=bne_eq_false_iff_eq.mpr c3
  have c3b2:(l0.length == l1.length)=true:=by first|simpa using c3|(simp at c3 ⊢;omega)
  clear c3;have H':=Xa.mk H;clear H
  go_enter Try.func31,Try.ntmps31
  go_wp2
  repeat (go_quiet (fail);try go_wp2)
  go_loopg [5] k (fun kq v5 w'=>∃ (x5_1:Int),v5=.int .i64 x5_1∧Xa (Zq.l0 kq l0 l1 x5_1=some r)∧Xa (kq≤k)∧Yn w w')
  case atStart=>exact ⟨(0),(by first|rfl|(simp;done)|(simp [*];done)),H',⟨Nat.le_refl _⟩,by repeat (first|exact Yn.refl _|apply Yn.step)⟩
  case round=>
   clear H'
   try clear c1
   try clear p2
   try clear c3
   try clear c3b0
   try clear c3b1
   try clear c3b2
   obtain ⟨x5_1,rfl,HA,HK1,⟨m1,rfl⟩⟩:=hrel
   cases gk with
   |zero=>exact absurd HA.out (by simp [Zq.l0])
   |succ k1=>
    have H:=HA.out;clear HA;simp only [Zq.l0] at H;by_cases c4:x5_1<(l0.length:Int)
    ·rw [if_pos c4] at H;have c4b0:decide (x5_1<(l0.length:Int))=true:=decide_eq_true c4;clear c4;by_cases c5:0≤x5_1
     ·rw [if_pos c5] at H;have c5b0:decide (0≤x5_1)=true:=decide_eq_true c5;clear c5;by_cases c6:x5_1<(l1.length:Int)
      ·rw [if_pos c6] at H;have c6b0:decide (x5_1<(l1.length:Int))=true:=decide_eq_true c6;clear c6;by_cases c7:(!(((Xb l0 x5_1).f0) == ((Xb l1 x5_1).f0))||(!(((Xb l0 x5_1).f1) == ((Xb l1 x5_1).f1))||(!(((Xb l0 x5_1).f2) == ((Xb l1 x5_1).f2))||(!(((Xb l0 x5_1).f3) == ((Xb l1 x5_1).f3))))))=true
       ·rw [if_pos c7] at H;have c7b0:(!(((Xb l0 x5_1).f0) == ((Xb l1 x5_1).f0))||(!(((Xb l0 x5_1).f1) == ((Xb l1 x5_1).f1))||(!(((Xb l0 x5_1).f2) == ((Xb l1 x5_1).f2))||(!(((Xb l0 x5_1).f3) == ((Xb l1 x5_1).f3))))))=true:=c7;clear c7;obtain rfl:=Option.some.inj H;have p659:0≤(x5_1:Int):=of_decide_eq_true (by first|(with_reducible assumption)|assumption);have q659:x5_1<(l0.length:Int):=of_decide_eq_true (by first|(with_reducible assumption)|assumption);obtain ⟨ad659,e659,hx659_0,hx659_1,hx659_2,hx659_3⟩:=Zt HR0.out x5_1 p659 q659;cases e659
        replace p659:=eq_true p659;replace q659:=eq_true q659;have p660:0≤(x5_1:Int):=of_decide_eq_true (by first|(with_reducible assumption)|assumption);have q660:x5_1<(l1.length:Int):=of_decide_eq_true (by first|(with_reducible assumption)|assumption);obtain ⟨ad660,e660,hx660_0,hx660_1,hx660_2,hx660_3⟩:=Zt HR1.out x5_1 p660 q660;cases e660
        replace p660:=eq_true p660;replace q660:=eq_true q660;go_wp2
        repeat (go_quiet (fail);try go_wp2)
        go_ret
        exact ⟨by first|rfl|(simp;done)|(simp [*];done),by repeat (first|exact Yn.refl _|apply Yn.step)⟩
       ·rw [if_neg c7] at H
        have c7b0:(!(((Xb l0 x5_1).f0) == ((Xb l1 x5_1).f0))||(!(((Xb l0 x5_1).f1) == ((Xb l1 x5_1).f1))||(!(((Xb l0 x5_1).f2) == ((Xb l1 x5_1).f2))||(!(((Xb l0 x5_1).f3) == ((Xb l1 x5_1).f3))))))=false:=by simpa using c7
        clear c7;have H':=Xa.mk H;clear H;have p659:0≤(x5_1:Int):=of_decide_eq_true (by first|(with_reducible assumption)|assumption);have q659:x5_1<(l0.length:Int):=of_decide_eq_true (by first|(with_reducible assumption)|assumption);obtain ⟨ad659,e659,hx659_0,hx659_1,hx659_2,hx659_3⟩:=Zt HR0.out x5_1 p659 q659;cases e659
        replace p659:=eq_true p659;replace q659:=eq_true q659;have p660:0≤(x5_1:Int):=of_decide_eq_true (by first|(with_reducible assumption)|assumption);have q660:x5_1<(l1.length:Int):=of_decide_eq_true (by first|(with_reducible assumption)|assumption);obtain ⟨ad660,e660,hx660_0,hx660_1,hx660_2,hx660_3⟩:=Zt HR1.out x5_1 p660 q660;cases e660
        replace p660:=eq_true p660;replace q660:=eq_true q660;go_wp2
        repeat (go_quiet (fail);try go_wp2)
        go_roundg k1
        case measure=>have:=HK1.out;omega
        case rel=>exact ⟨(wrap64 (x5_1+1)),(by first|rfl|(simp;done)|(simp [*];done)),H',⟨by have:=HK1.out;omega⟩,by repeat (first|exact Yn.refl _|apply Yn.step)⟩
      ·rw [if_neg c6] at H;exact absurd H (by simp)
     ·rw [if_neg c5] at H;exact absurd H (by simp)
    ·rw [if_neg c4] at H;have c4b0:decide (x5_1<(l0.length:Int))=false:=decide_eq_false c4;clear c4;obtain rfl:=Option.some.inj H;go_wp2
     repeat (go_quiet (fail);try go_wp2)
     go_ret
     exact ⟨by first|rfl|(simp;done)|(simp [*];done),by repeat (first|exact Yn.refl _|apply Yn.step)⟩
 ·rw [if_neg c3] at H;have c3b0:((l0.length:Int) == (l1.length:Int))=false:=beq_eq_false_iff_ne.mpr c3;have c3b1:((l0.length:Int) != (l1.length:Int))=true:=bne_iff_ne.mpr c3
  have c3b2:(l0.length == l1.length)=false:=by first|simpa using c3|(simp at c3 ⊢;omega)
  obtain rfl:=Option.some.inj H
  go_enter Try.func31,Try.ntmps31
  go_wp2
  repeat (go_quiet (fail);try go_wp2)
  go_ret
  exact ⟨by first|rfl|(simp;done)|(simp [*];done),by repeat (first|exact Yn.refl _|apply Yn.step)⟩
end Go.Proofs.Ytdkcjecllbdljaa.GSlim
