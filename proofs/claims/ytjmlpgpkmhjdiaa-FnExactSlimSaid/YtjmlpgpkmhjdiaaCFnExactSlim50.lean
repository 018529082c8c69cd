import Derived.Test.YtjmlpgpkmhjdiaaCFnExactSlim21
import Derived.Test.YtjmlpgpkmhjdiaaCFnExactSlim38
import Derived.Test.YtjmlpgpkmhjdiaaCFnExactSlim49
namespace Go.Proofs.Ytjmlpgpkmhjdiaa.GSlim
open Go.RowKit Go.Proofs.YtjmlpgpkmhjdiaaW.PrintWords Go.Proofs.YtjmlpgpkmhjdiaaW.PrintLast Go.Proofs.YtjmlpgpkmhjdiaaW.PrintMore
attribute [local go_sem] Zj Zl Zy Zz Yu Yv Zk Zm
set_option linter.unusedVariables false
set_option linter.unusedSimpArgs false
def Ye.l0:Nat→List Bool→Bool→Int→Int→Option (Int)
 |0,_,_,_,_=>none
 |k+1,x0,x1,x7,x8=>if x8<x7 then (if 0≤x8 then (if x8<(x0.length:Int) then (if (x1 == (rdOf false x0 x8))=true then (some x8) else (Ye.l0 k x0 x1 x7 (wrap64 (x8+1)))) else (none)) else (none)) else (some (-1))
def Ye.f (k:Nat) (l0:List Bool) (a1:Bool):Option (Int):=Ye.l0 k l0 a1 (l0.length:Int) 0
set_option maxHeartbeats 8000000 in
set_option maxRecDepth 100000 in
theorem Ye.calls (k:Nat) (A0:Option Addr) (c0:Nat) (l0:List Bool) (a1:Bool) (r:Int) (w:World) (hr0:Kd.C Kd.bool w A0 l0.length l0) (hc0:l0.length≤c0) (h:Ye.f k l0 a1=some r) :
  Calls Try.prog 99 #[.slice A0 l0.length c0,.bool a1] w fun e w'=>e=.returned (.int .i64 r)∧Xm w w':=by
 have HR0:=Xa.mk hr0;have HC0:=Xa.mk hc0;clear hr0 hc0;have H:(Ye.l0 k l0 a1 (l0.length:Int) 0)=some r:=h;clear h;have H':=Xa.mk H;clear H
 go_enter Try.func99,Try.ntmps99
 go_wp2
 go_loopg [8] k (fun kq v8 w'=>∃ (x8_1:Int),v8=.int .i64 x8_1∧Xa (Ye.l0 kq l0 a1 (l0.length:Int) x8_1=some r)∧Xa (kq≤k)∧Xm w w')
 case atStart=>exact ⟨(0),(by first|rfl|(simp;done)|(simp [*];done)),H',⟨Nat.le_refl _⟩,by repeat (first|exact Xm.refl _|apply Xm.step)⟩
 case round=>
  clear H'
  try clear p2
  obtain ⟨x8_1,rfl,HA,HK1,⟨m1,rfl⟩⟩:=hrel
  cases gk with
  |zero=>exact absurd HA.out (by simp [Ye.l0])
  |succ k1=>
   have H:=HA.out;clear HA;simp only [Ye.l0] at H;by_cases c3:x8_1<(l0.length:Int)
   ·rw [if_pos c3] at H;have c3b0:decide (x8_1<(l0.length:Int))=true:=decide_eq_true c3;clear c3;by_cases c4:0≤x8_1
    ·rw [if_pos c4] at H;have c4b0:decide (0≤x8_1)=true:=decide_eq_true c4;clear c4;by_cases c5:x8_1<(l0.length:Int)
     ·rw [if_pos c5] at H;have c5b0:decide (x8_1<(l0.length:Int))=true:=decide_eq_true c5;clear c5;by_cases c6:(a1 == (rdOf false l0 x8_1))=true
      ·rw [if_pos c6] at H;have c6b0:(a1 == (rdOf false l0 x8_1))=true:=c6
       (try (have c6b1:decide (a1=(rdOf false l0 x8_1))=true:=by simpa using c6))
       (try (have c6b2:(a1 == (rdOf false l0 x8_1))=true:=by simpa using c6))
       clear c6;obtain rfl:=Option.some.inj H;have p359:0≤(x8_1:Int):=of_decide_eq_true (by first|(with_reducible assumption)|assumption);have q359:x8_1<(l0.length:Int):=of_decide_eq_true (by first|(with_reducible assumption)|assumption);obtain ⟨ad359,e359,hx359_0⟩:=Kd.at_bool HR0.out x8_1 p359 q359;cases e359
       replace p359:=eq_true p359;replace q359:=eq_true q359;go_wp2
       go_ret
       exact ⟨by first|rfl|(simp;done)|(simp [*];done),by repeat (first|exact Xm.refl _|apply Xm.step)⟩
      ·rw [if_neg c6] at H
       have c6b0:(a1 == (rdOf false l0 x8_1))=false:=by simpa using c6
       (try (have c6b1:decide (a1=(rdOf false l0 x8_1))=false:=by simpa using c6))
       (try (have c6b2:(a1 == (rdOf false l0 x8_1))=false:=by simpa using c6))
       (try (have c6b3:¬ (a1=(rdOf false l0 x8_1)):=by simpa using c6))
       clear c6;have H':=Xa.mk H;clear H;have p359:0≤(x8_1:Int):=of_decide_eq_true (by first|(with_reducible assumption)|assumption);have q359:x8_1<(l0.length:Int):=of_decide_eq_true (by first|(with_reducible assumption)|assumption);obtain ⟨ad359,e359,hx359_0⟩:=Kd.at_bool HR0.out x8_1 p359 q359;cases e359
       replace p359:=eq_true p359;replace q359:=eq_true q359;go_wp2
       go_roundg k1
       case measure=>have:=HK1.out;omega
       case rel=>exact ⟨(wrap64 (x8_1+1)),(by first|rfl|(simp;done)|(simp [*];done)),H',⟨by have:=HK1.out;omega⟩,by repeat (first|exact Xm.refl _|apply Xm.step)⟩
     ·rw [if_neg c5] at H;exact absurd H (by simp)
    ·rw [if_neg c4] at H;exact absurd H (by simp)
   ·rw [if_neg c3] at H;have c3b0:decide (x8_1<(l0.length:Int))=false:=decide_eq_false c3;clear c3;obtain rfl:=Option.some.inj H;go_wp2
    go_ret
    exact ⟨by first|rfl|(simp;done)|(simp [*];done),by repeat (first|exact Xm.refl _|apply Xm.step)⟩
def Yn.f (k:Nat) (l0:List Bool) (a1:Bool):Option (Bool):=(Ye.f k l0 a1).bind fun t360=>(some (decide (t360 ≥ 0)))
set_option maxHeartbeats 8000000 in
set_option maxRecDepth 100000 in
theorem Yn.calls (k:Nat) (A0:Option Addr) (c0:Nat) (l0:List Bool) (a1:Bool) (r:Bool) (w:World) (hr0:Kd.C Kd.bool w A0 l0.length l0) (hc0:l0.length≤c0) (h:Yn.f k l0 a1=some r) :
  Calls Try.prog 93 #[.slice A0 l0.length c0,.bool a1] w fun e w'=>e=.returned (.bool r)∧Xm w w':=by
 have HR0:=Xa.mk hr0;have HC0:=Xa.mk hc0;clear hr0 hc0;have H:((Ye.f k l0 a1).bind fun t360=>(some (decide (t360 ≥ 0))))=some r:=h;clear h;replace H:=Option.bind_eq_some_iff.mp H;obtain ⟨t360,A30,H⟩:=H;replace H:(some (decide (t360 ≥ 0)))=some r:=H;have A3:=Xa.mk A30;clear A30;obtain rfl:=Option.some.inj H
 go_enter Try.func93,Try.ntmps93
 go_wp2_with (first|((with_reducible refine Xe (f:=99) rfl ?_);refine Xv (some 7) rfl rfl Try.func99 (by kernel_rfl) rfl #[.slice A0 l0.length c0,.bool a1] rfl ga_ ?_;(with_reducible refine (Ye.calls k _ _ l0 a1 t360 _ ?side1 ?side2 A3.out).mono ?_);(case side1=>repeat (first|exact HR0.out|(with_reducible refine Kd.Xr ?_ _)|(with_reducible refine Kd.Xt ?_ _)|(with_reducible refine Kd.Yc ?_)));(case side2=>exact HC0.out);rintro e w' ⟨rfl,⟨nd,rfl⟩⟩;refine ⟨_,rfl,?_⟩))
 go_ret
 exact ⟨by first|rfl|(simp;done)|(simp [*];done),by repeat (first|exact Xm.refl _|apply Xm.step)⟩
mutual
def Ya.l0:Nat→List Bool→List Bool→List (S47)→Int→Int→Option (List Bool)
 |0,_,_,_,_,_=>none
 |k+1,x3,x5,x18,x19,x20=>if x20<x19 then (if 0≤x20 then (if x20<(x18.length:Int) then (if ((Xb x18 x20).f0)=7 then (Ya.j1 k x3 x5 x20 x18 x19 x20 (decide (((Xb x18 x20).f3)≤x20)) ((Xb x18 x20).f0) ((Xb x18 x20).f1) ((Xb x18 x20).f2) ((Xb x18 x20).f3)) else (Ya.j1 k x3 x5 x20 x18 x19 x20 true ((Xb x18 x20).f0) ((Xb x18 x20).f1) ((Xb x18 x20).f2) ((Xb x18 x20).f3))) else (none)) else (none)) else (some x5)
def Ya.j1:Nat→List Bool→List Bool→Int→List (S47)→Int→Int→Bool→Int→Int→Int→Int→Option (List Bool)
 |0,_,_,_,_,_,_,_,_,_,_,_=>none
 |k+1,x3,x5,x6,x18,x19,x20,x33,x370000,x370001,x370002,x370003=>if x33=true then (Ya.l0 k x3 x5 x18 x19 (wrap64 (x20+1))) else (if 0≤(wrap64 (x6+1)) then (if (wrap64 (x6+1))≤x370003 then (if x370003≤(x3.length:Int) then ((Yn.f k ((x3.take (x370003:Int).toNat).drop ((wrap64 (x6+1)):Int).toNat) true).bind fun t374=>(if t374=true then (Ya.l0 k x3 x5 x18 x19 (wrap64 (x20+1))) else (if 0≤x370003 then (if x370003<(x3.length:Int) then (if rdOf false x3 x370003=true then (if 0≤x6 then (if x6<(x5.length:Int) then (Ya.l0 k x3 (x5.set (x6:Int).toNat false) x18 x19 (wrap64 (x20+1))) else (none)) else (none)) else (Ya.l0 k x3 x5 x18 x19 (wrap64 (x20+1)))) else (none)) else (none)))) else (none)) else (none)) else (none))
end
def Ya.f (k:Nat) (l0:List (S47)):Option (List Bool):=(impl_reach.f k l0).bind fun t361=>(if 0≤(wrap64 ((l0.length:Int) - 1)) then (if (wrap64 ((l0.length:Int) - 1))<(t361.length:Int) then ((some (t361.set ((wrap64 ((l0.length:Int) - 1)):Int).toNat true:List Bool)).bind fun y364=>((Yw.f y364).bind fun t365=>(Ya.l0 k y364 t365 l0 (l0.length:Int) 0))) else (none)) else (none))
set_option maxHeartbeats 8000000 in
set_option maxRecDepth 100000 in
theorem Ya.calls (k:Nat) (A0:Option Addr) (c0:Nat) (l0:List (S47)) (r:List Bool) (w:World) (hr0:Kd.C k47 w A0 l0.length l0) (hc0:l0.length≤c0) (h:Ya.f k l0=some r) :
  Calls Try.prog 78 #[.slice A0 l0.length c0] w fun e w'=>∃ v0_:Value,e=.returned (v0_)∧Kd.R Kd.bool 4 w' w.heap.size (fun _=>True) v0_ r∧Below w.heap.size w w':=by
 have hu47:=Try.underlying47;have HR0:=Xa.mk hr0;have HC0:=Xa.mk hc0;clear hr0 hc0;have HB:=Xa.mk (Below.refl w.heap.size w);have H:((impl_reach.f k l0).bind fun t361=>(if 0≤(wrap64 ((l0.length:Int) - 1)) then (if (wrap64 ((l0.length:Int) - 1))<(t361.length:Int) then ((some (t361.set ((wrap64 ((l0.length:Int) - 1)):Int).toNat true:List Bool)).bind fun y364=>((Yw.f y364).bind fun t365=>(Ya.l0 k y364 t365 l0 (l0.length:Int) 0))) else (none)) else (none)))=some r:=h;clear h;replace H:=Option.bind_eq_some_iff.mp H;obtain ⟨t361,A20,H⟩:=H;replace H:(if 0≤(wrap64 ((l0.length:Int) - 1)) then (if (wrap64 ((l0.length:Int) - 1))<(t361.length:Int) then ((some (t361.set ((wrap64 ((l0.length:Int) - 1)):Int).toNat true:List Bool)).bind fun y364=>((Yw.f y364).bind fun t365=>(Ya.l0 k y364 t365 l0 (l0.length:Int) 0))) else (none)) else (none))=some r:=H;have A2:=Xa.mk A20;clear A20;obtain ⟨ji3,hji3⟩:∃ j_:Int,(wrap64 ((l0.length:Int) - 1))=j_:=⟨_,rfl⟩
 replace H:(if 0≤(ji3) then (if (ji3)<(t361.length:Int) then ((some (t361.set ((ji3):Int).toNat true:List Bool)).bind fun y364=>((Yw.f y364).bind fun t365=>(Ya.l0 k y364 t365 l0 (l0.length:Int) 0))) else (none)) else (none))=some r:=by first|(rw [hji3] at H;exact H)|(simp only [hji3] at H ⊢;exact H)
 (try rw [hji3] at A2)
 have hji3w:(IntKind.i64.wrap ((l0.length:Int) - 1))=ji3:=(Xz _).trans hji3;by_cases c4:0≤(ji3)
 ·rw [if_pos c4] at H;have c4b0:decide (0≤(ji3))=true:=decide_eq_true c4;clear c4;by_cases c5:(ji3)<(t361.length:Int)
  ·rw [if_pos c5] at H;have c5b0:decide ((ji3)<(t361.length:Int))=true:=decide_eq_true c5;clear c5;obtain ⟨y364,hy364⟩:∃ y_:List Bool,y_=(t361.set ((ji3):Int).toNat true):=⟨_,rfl⟩
   replace H:((Yw.f y364).bind fun t365=>(Ya.l0 k y364 t365 l0 (l0.length:Int) 0))=some r:=by subst hy364;first|with_reducible exact H|(have z:=(Option.bind_some _ _).symm.trans H;with_reducible exact z)|exact H
   have Ny364:=Xa.mk hy364;clear hy364;replace H:=Option.bind_eq_some_iff.mp H;obtain ⟨t365,A70,H⟩:=H;replace H:(Ya.l0 k y364 t365 l0 (l0.length:Int) 0)=some r:=H;have A7:=Xa.mk A70;clear A70;have H':=Xa.mk H;clear H
   go_enter Try.func78,Try.ntmps78
   go_wp2_with (first|((with_reducible refine Xe (f:=56) rfl ?_);refine Xv (some 9) rfl rfl Try.func56 (by kernel_rfl) rfl #[.slice A0 l0.length c0] rfl ga_ ?_;(with_reducible refine (impl_reach.calls k _ _ l0 t361 _ ?side1 ?side2 A2.out).mono ?_);(case side1=>repeat (first|exact HR0.out|(with_reducible refine Kd.Xr ?_ _)|(with_reducible refine Kd.Xt ?_ _)|(with_reducible refine Kd.Yc ?_)));(case side2=>exact HC0.out);rintro e w8 ⟨v362,rfl,ho0,hb⟩;refine ⟨_,rfl,?_⟩;have n0_:=Xa.mk (Kd.Yl ho0 (Xc (bl_ HB)));have n1_:=Xa.mk (Xd (bl_ HB) hb);clear HB;have HO363:=n0_;have HB:=n1_;clear n0_ n1_;(try clear hb);(try clear hb2);(try clear hk);(try clear hi);(try clear ho0);have p6:0≤((ji3):Int):=of_decide_eq_true (by first|(with_reducible assumption)|assumption);have q6:((ji3):Int)<((t361.length:Int):Int):=of_decide_eq_true (by first|(with_reducible assumption)|assumption);obtain ⟨go6,co6,eo6,gb6,gl6,cl6,HG6⟩:=Kd.R_form HO363.out (by omega);(first|cases eo6|(injection eo6 with ea_ en_ ec_;(first|subst ea_|(injection ea_ with ea_;subst ea_));subst ec_;clear en_));have GB6:=Xa.mk gb6;have GG6:=Xa.mk HG6;clear gb6 gl6 HG6;obtain ⟨hx6_0,hf6_0⟩:=Kd.R_celln false HO363.out ((ji3):Int) p6 q6;replace p6:=eq_true p6;replace q6:=eq_true q6;obtain ⟨hy9_,hz9_⟩:=Kd.R_celln false HO363.out ((ji3):Int) (of_decide_eq_true (by first|(with_reducible assumption)|assumption)) (of_decide_eq_true (by first|(with_reducible assumption)|assumption));have HP9:=Kd.R_putg HO363.out ((ji3):Int) true)|((with_reducible refine Uk (t:=4) (p:=15) rfl ?_);refine Uf (t:=4) (p:=15) (v:=?vo_w10) (w1:=(w8.setCell ⟨go6,((ji3):Int).toNat,none⟩ (.bool true))) ?hg ?ho ?hn ?hr ?_;(case ho=>rfl);(case hg=>rfl);(case hn=>rfl);(case hr=>first|(go_simp;done)|(go_simp;rfl));intro w10 hw;have hg:w8.grownBy w10 (some go6):=(by rw [hw];exact HP9.2);have hp_:Kd.R Kd.bool 4 w10 w.heap.size (fun _=>True) (.slice (some ⟨go6,0,none⟩) t361.length co6) y364:=(by rw [hw,Ny364.out];exact HP9.1);clear HP9;have n0_:=Xa.mk (hp_);have n1_:=Xa.mk ((by rw [hw];exact Ug (HB.out) GB6.out:Below w.heap.size w w10));clear HO363;clear HB;have HO363:=n0_;have HB:=n1_;clear n0_ n1_;clear hg hw hp_)|((with_reducible refine Xe (f:=92) rfl ?_);refine Xv (some 17) rfl rfl Try.func92 (by kernel_rfl) rfl #[.slice (some ⟨go6,0,none⟩) y364.length co6] rfl (by (try simp only [List.map_toArray,List.map_cons,List.map_nil]);first|done|(rw [show y364.length=t361.length from (Kd.R_reads' HO363.out).1.symm] <;> rfl)|rfl|(simp only [List.length_drop,List.length_take];rfl)) ?_;(with_reducible refine (Yw.calls _ _ y364 t365 _ ?side1 ?side2 A7.out).mono ?_);(case side1=>repeat (first|exact (Kd.R_reads' HO363.out).2.2|(with_reducible refine Kd.Xr ?_ _)|(with_reducible refine Kd.Xt ?_ _)|(with_reducible refine Kd.Yc ?_)));(case side2=>rw [show y364.length=t361.length from (Kd.R_reads' HO363.out).1.symm];exact (Kd.R_reads' HO363.out).2.1);rintro e w11 ⟨v366,rfl,ho0,hb⟩;refine ⟨_,rfl,?_⟩;have n0_:=Xa.mk (Kd.R_elder' (Kd.ra_ (HO363.out)) (Kd.Yp ho0) hb);have n1_:=Xa.mk (Kd.Yl (Kd.R_new' ho0 (Kd.R_lt (Kd.ra_ (HO363.out)))) (Xc (bl_ HB)));have n2_:=Xa.mk (Xd (bl_ HB) hb);clear HO363;clear HB;have HO363:=n0_;have HO367:=n1_;have HB:=n2_;clear n0_ n1_ n2_;(try clear hb);(try clear hb2);(try clear hk);(try clear hi);(try clear ho0)))
   go_loopg [20] k (fun kq v20 w'=>∃ (x5_1:List Bool) (x20_1:Int),v20=.int .i64 x20_1∧Xa (Ya.l0 kq y364 x5_1 l0 (l0.length:Int) x20_1=some r)∧Xa (kq≤k)∧Xa (Kd.R Kd.bool 4 w' w.heap.size (fun k_=>some k_≠(v366:Value).ownBlock) (.slice (some ⟨go6,0,none⟩) t361.length co6) y364)∧Xa (Kd.R Kd.bool 4 w' w.heap.size (fun k_=>some k_≠((.slice (some ⟨go6,0,none⟩) t361.length co6):Value).ownBlock) v366 x5_1)∧Xa (Below w.heap.size w w'))
   case atStart=>exact ⟨(t365),(0),(by first|rfl|(simp;done)|(simp [*];done)),H',⟨Nat.le_refl _⟩,⟨Kd.ra_ (Kd.Yd HO363.out (fun _ hk=>hk.2))⟩,⟨Kd.ra_ (Kd.Yd HO367.out (fun _ hk=>hk.2))⟩,⟨bl_ HB⟩⟩
   case round=>
    clear H'
    try clear p2
    try clear c4
    try clear c4b0
    try clear c5
    try clear c5b0
    try clear p6
    try clear q6
    try clear hx6
    try clear hf6
    try clear c7
    try clear c9
    try clear hx6_0
    try clear p6
    try clear q6
    obtain ⟨x5_1,x20_1,rfl,HA,HK1,HO_3,HO_5,HB⟩:=hrel;have hl3_1:=(Kd.R_reads' HO_3.out).1;rw [hl3_1] at HO_3
    (try simp only [hl3_1])
    (try simp only [hl3_1] at HO_5)
    cases gk with
    |zero=>exact absurd HA.out (by simp [Ya.l0])
    |succ k1=>
     have H:=HA.out;clear HA;simp only [Ya.l0] at H;by_cases c12:x20_1<(l0.length:Int)
     ·rw [if_pos c12] at H;have c12b0:decide (x20_1<(l0.length:Int))=true:=decide_eq_true c12;clear c12;by_cases c13:0≤x20_1
      ·rw [if_pos c13] at H;have c13b0:decide (0≤x20_1)=true:=decide_eq_true c13;clear c13;by_cases c14:x20_1<(l0.length:Int)
       ·rw [if_pos c14] at H;have c14b0:decide (x20_1<(l0.length:Int))=true:=decide_eq_true c14;clear c14;have HC15:=Xa.mk H;clear H;have p368:0≤(x20_1:Int):=of_decide_eq_true (by first|(with_reducible assumption)|assumption);have q368:x20_1<(l0.length:Int):=of_decide_eq_true (by first|(with_reducible assumption)|assumption);obtain ⟨ad368,e368,hx368_0,hx368_1,hx368_2,hx368_3⟩:=Yk HR0.out x20_1 p368 q368;cases e368
        replace hx368_0:=(HB.out.cell (World.block_lt_of_cell? w _ hx368_0)).trans hx368_0;replace hx368_1:=(HB.out.cell (World.block_lt_of_cell? w _ hx368_1)).trans hx368_1;replace hx368_2:=(HB.out.cell (World.block_lt_of_cell? w _ hx368_2)).trans hx368_2;replace hx368_3:=(HB.out.cell (World.block_lt_of_cell? w _ hx368_3)).trans hx368_3;replace p368:=eq_true p368;replace q368:=eq_true q368
        go_upto_region 7 with (first|((with_reducible refine Xp (N:=7) rfl ?_);refine Xx ?hg (N:=7) ?hd (cs:=#[.int .i64 0,.int .i64 0,.int .i64 0,.int .i64 0]) (t:=47) ?hr ?_;(case hd=>rfl);(case hg=>rfl);(case hr=>first|(go_simp;done)|(go_simp;rfl));intro gb369 hg w16 hbox hb;have n0_:=Xa.mk (Kd.Yj (Kd.ra_ (HO_3.out)) hb);have n1_:=Xa.mk (Kd.Yj (Kd.ra_ (HO_5.out)) hb);have n2_:=Xa.mk (Xd (bl_ HB) hb);have n3_:=Xa.mk (hbox);have n4_:=Xa.mk ((by rw [hg];exact (Xc (bl_ HB)):w.heap.size≤gb369));have n5_:=Xa.mk ((by rw [hg];exact (Xc (bl_ HB)):w.heap.size≤gb369));clear HO_3;clear HO_5;clear HB;have HO_3:=n0_;have HO_5:=n1_;have HB:=n2_;have BK369:=n3_;have GW369:=n4_;have GE369:=n5_;clear n0_ n1_ n2_ n3_ n4_ n5_;clear hb hbox hg;obtain ⟨hcz17_0,hcz17_1,hcz17_2,hcz17_3⟩:=Zp BK369.out;obtain ⟨hfz17_0,hfz17_1,hfz17_2,hfz17_3⟩:=Zq BK369.out))
        (try simp only [Act.put,List.setIfInBounds_toArray,List.set_cons_zero,List.set_cons_succ])
        go_cut [33] (fun v33 wc=>∃ (kq:Nat) (x33_14:Bool),v33=.bool x33_14∧Xa (Ya.j1 kq y364 x5_1 x20_1 l0 (l0.length:Int) x20_1 x33_14 ((Xb l0 x20_1).f0) ((Xb l0 x20_1).f1) ((Xb l0 x20_1).f2) ((Xb l0 x20_1).f3)=some r)∧Xa (kq≤k1)∧Xa (Kd.R Kd.bool 4 wc w.heap.size (fun k_=>some k_≠(v366:Value).ownBlock) (.slice (some ⟨go6,0,none⟩) y364.length co6) y364)∧Xa (Kd.R Kd.bool 4 wc w.heap.size (fun k_=>some k_≠((.slice (some ⟨go6,0,none⟩) y364.length co6):Value).ownBlock) v366 x5_1)∧Xa (wc.heap[gb369]?=some (.cells #[.int .i64 ((Xb l0 x20_1).f0),.int .i64 ((Xb l0 x20_1).f1),.int .i64 ((Xb l0 x20_1).f2),.int .i64 ((Xb l0 x20_1).f3)] 47 (0,0)))∧Xa (Below w.heap.size w wc))
        case first=>
         have H:=HC15.out;clear HC15;by_cases c18:((Xb l0 x20_1).f0)=7
         ·rw [if_pos c18] at H;have c18b0:(((Xb l0 x20_1).f0) == 7)=true:=beq_iff_eq.mpr c18;have c18b1:(((Xb l0 x20_1).f0) != 7)=false:=bne_eq_false_iff_eq.mpr c18;clear c18
          (first|rw [c18b0]|(simp only [Xz,Yb];rw [c18b0])|skip)
          have H':=Xa.mk H;clear H;obtain ⟨hcz19_0,hcz19_1,hcz19_2,hcz19_3⟩:=Zp BK369.out;obtain ⟨hfz19_0,hfz19_1,hfz19_2,hfz19_3⟩:=Zq BK369.out;go_wp2
          go_meet
          case rel=>exact ⟨_,(decide (((Xb l0 x20_1).f3)≤x20_1)),(by first|rfl|(simp;done)|(simp [*];done)),H',⟨by have:=HK1.out;first|omega|exact Nat.le_refl _⟩,⟨by (try simp only [hl3_1]);(with_reducible repeat (first|apply Kd.Zc|apply Kd.Za|apply Kd.Ud));exact Kd.Yd (Kd.R_far (p:=⟨gb369,3,none⟩) (Kd.R_far (p:=⟨gb369,2,none⟩) (Kd.R_far (p:=⟨gb369,1,none⟩) (Kd.R_far (p:=⟨gb369,0,none⟩) (Kd.R_types HO_3.out BK369.out (by decide)) (fun _ hk=>hk.2) (.int .i64 ((Xb l0 x20_1).f0))) (fun _ hk=>hk.2) (.int .i64 ((Xb l0 x20_1).f1))) (fun _ hk=>hk.2) (.int .i64 ((Xb l0 x20_1).f2))) (fun _ hk=>hk.2) (.int .i64 ((Xb l0 x20_1).f3))) (fun _ hk=>hk.1)⟩,⟨by (try simp only [hl3_1]);(with_reducible repeat (first|apply Kd.Zc|apply Kd.Za|apply Kd.Ud));exact Kd.Yd (Kd.R_far (p:=⟨gb369,3,none⟩) (Kd.R_far (p:=⟨gb369,2,none⟩) (Kd.R_far (p:=⟨gb369,1,none⟩) (Kd.R_far (p:=⟨gb369,0,none⟩) (Kd.R_types HO_5.out BK369.out (by decide)) (fun _ hk=>hk.2) (.int .i64 ((Xb l0 x20_1).f0))) (fun _ hk=>hk.2) (.int .i64 ((Xb l0 x20_1).f1))) (fun _ hk=>hk.2) (.int .i64 ((Xb l0 x20_1).f2))) (fun _ hk=>hk.2) (.int .i64 ((Xb l0 x20_1).f3))) (fun _ hk=>hk.1)⟩,⟨by (try simp only [hl3_1]);(with_reducible repeat (first|refine Yi ?_ _|refine Ym ?_|refine Yh ?_ _));refine Zx (cs:=#[.int .i64 ((Xb l0 x20_1).f0),.int .i64 ((Xb l0 x20_1).f1),.int .i64 ((Xb l0 x20_1).f2),.int .i64 0]) ?_ 3 _ rfl;(with_reducible repeat (first|refine Yi ?_ _|refine Ym ?_|refine Yh ?_ _));refine Zx (cs:=#[.int .i64 ((Xb l0 x20_1).f0),.int .i64 ((Xb l0 x20_1).f1),.int .i64 0,.int .i64 0]) ?_ 2 _ rfl;(with_reducible repeat (first|refine Yi ?_ _|refine Ym ?_|refine Yh ?_ _));refine Zx (cs:=#[.int .i64 ((Xb l0 x20_1).f0),.int .i64 0,.int .i64 0,.int .i64 0]) ?_ 1 _ rfl;(with_reducible repeat (first|refine Yi ?_ _|refine Ym ?_|refine Yh ?_ _));refine Zx (cs:=#[.int .i64 0,.int .i64 0,.int .i64 0,.int .i64 0]) ?_ 0 _ rfl;(with_reducible repeat (first|refine Yi ?_ _|refine Ym ?_|refine Yh ?_ _));exact BK369.out⟩,⟨bl_ HB⟩⟩
         ·rw [if_neg c18] at H;have c18b0:(((Xb l0 x20_1).f0) == 7)=false:=beq_eq_false_iff_ne.mpr c18;have c18b1:(((Xb l0 x20_1).f0) != 7)=true:=bne_iff_ne.mpr c18
          (first|rw [c18b0]|(simp only [Xz,Yb];rw [c18b0])|skip)
          have H':=Xa.mk H;clear H;obtain ⟨hcz20_0,hcz20_1,hcz20_2,hcz20_3⟩:=Zp BK369.out;obtain ⟨hfz20_0,hfz20_1,hfz20_2,hfz20_3⟩:=Zq BK369.out;go_wp2
          go_meet
          case rel=>exact ⟨_,(true),(by first|rfl|(simp;done)|(simp [*];done)),H',⟨by have:=HK1.out;first|omega|exact Nat.le_refl _⟩,⟨by (try simp only [hl3_1]);(with_reducible repeat (first|apply Kd.Zc|apply Kd.Za|apply Kd.Ud));exact Kd.Yd (Kd.R_far (p:=⟨gb369,3,none⟩) (Kd.R_far (p:=⟨gb369,2,none⟩) (Kd.R_far (p:=⟨gb369,1,none⟩) (Kd.R_far (p:=⟨gb369,0,none⟩) (Kd.R_types HO_3.out BK369.out (by decide)) (fun _ hk=>hk.2) (.int .i64 ((Xb l0 x20_1).f0))) (fun _ hk=>hk.2) (.int .i64 ((Xb l0 x20_1).f1))) (fun _ hk=>hk.2) (.int .i64 ((Xb l0 x20_1).f2))) (fun _ hk=>hk.2) (.int .i64 ((Xb l0 x20_1).f3))) (fun _ hk=>hk.1)⟩,⟨by (try simp only [hl3_1]);(with_reducible repeat (first|apply Kd.Zc|apply Kd.Za|apply Kd.Ud));exact Kd.Yd (Kd.R_far (p:=⟨gb369,3,none⟩) (Kd.R_far (p:=⟨gb369,2,none⟩) (Kd.R_far (p:=⟨gb369,1,none⟩) (Kd.R_far (p:=⟨gb369,0,none⟩) (Kd.R_types HO_5.out BK369.out (by decide)) (fun _ hk=>hk.2) (.int .i64 ((Xb l0 x20_1).f0))) (fun _ hk=>hk.2) (.int .i64 ((Xb l0 x20_1).f1))) (fun _ hk=>hk.2) (.int .i64 ((Xb l0 x20_1).f2))) (fun _ hk=>hk.2) (.int .i64 ((Xb l0 x20_1).f3))) (fun _ hk=>hk.1)⟩,⟨by (try simp only [hl3_1]);(with_reducible repeat (first|refine Yi ?_ _|refine Ym ?_|refine Yh ?_ _));refine Zx (cs:=#[.int .i64 ((Xb l0 x20_1).f0),.int .i64 ((Xb l0 x20_1).f1),.int .i64 ((Xb l0 x20_1).f2),.int .i64 0]) ?_ 3 _ rfl;(with_reducible repeat (first|refine Yi ?_ _|refine Ym ?_|refine Yh ?_ _));refine Zx (cs:=#[.int .i64 ((Xb l0 x20_1).f0),.int .i64 ((Xb l0 x20_1).f1),.int .i64 0,.int .i64 0]) ?_ 2 _ rfl;(with_reducible repeat (first|refine Yi ?_ _|refine Ym ?_|refine Yh ?_ _));refine Zx (cs:=#[.int .i64 ((Xb l0 x20_1).f0),.int .i64 0,.int .i64 0,.int .i64 0]) ?_ 1 _ rfl;(with_reducible repeat (first|refine Yi ?_ _|refine Ym ?_|refine Yh ?_ _));refine Zx (cs:=#[.int .i64 0,.int .i64 0,.int .i64 0,.int .i64 0]) ?_ 0 _ rfl;(with_reducible repeat (first|refine Yi ?_ _|refine Ym ?_|refine Yh ?_ _));exact BK369.out⟩,⟨bl_ HB⟩⟩
        case rest=>
         clear HC15
         try clear c1
         try clear p2
         try clear p3
         try clear q3
         try clear hx3
         try clear c4
         try clear c4b0
         try clear c5
         try clear c5b0
         try clear p6
         try clear q6
         try clear hx6
         try clear hf6
         try clear c7
         try clear c9
         try clear c12
         try clear c12b0
         try clear c13
         try clear c13b0
         try clear c14
         try clear c14b0
         try clear c18
         try clear c18b0
         try clear c18b1
         try clear hcz17_0
         try clear hcz17_1
         try clear hcz17_2
         try clear hcz17_3
         try clear hcz19_0
         try clear hcz19_1
         try clear hcz19_2
         try clear hcz19_3
         try clear hcz20_0
         try clear hcz20_1
         try clear hcz20_2
         try clear hcz20_3
         try clear hfz17_0
         try clear hfz17_1
         try clear hfz17_2
         try clear hfz17_3
         try clear hfz19_0
         try clear hfz19_1
         try clear hfz19_2
         try clear hfz19_3
         try clear hfz20_0
         try clear hfz20_1
         try clear hfz20_2
         try clear hfz20_3
         try clear hx368_0
         try clear hx368_1
         try clear hx368_2
         try clear hx368_3
         try clear hx6_0
         try clear p2
         try clear p368
         try clear p6
         try clear q368
         try clear q6
         obtain ⟨kq,x33_14,rfl,HA,HJ14,HO_3,HO_5,BK369,HB⟩:=hcut
         cases kq with
         |zero=>exact absurd HA.out (by simp [Ya.j1])
         |succ kj14=>
          have H:=HA.out;clear HA;simp only [Ya.j1] at H;by_cases c21:x33_14=true
          ·subst c21
           have H1:(Ya.l0 kj14 y364 x5_1 l0 (l0.length:Int) (wrap64 (x20_1+1)))=some r:=by rw [if_pos rfl] at H;exact H
           clear H;have H:=H1;clear H1;have H':=Xa.mk H;clear H;go_wp2
           (try simp only [← hl3_1])
           go_roundg kj14
           case measure=>have:=HK1.out;have:=HJ14.out;omega
           case rel=>exact ⟨(x5_1),(wrap64 (x20_1+1)),(by first|rfl|(simp;done)|(simp [*];done)),H',⟨by have:=HK1.out;have:=HJ14.out;omega⟩,⟨by (try simp only [hl3_1]);(with_reducible repeat (first|apply Kd.Zc|apply Kd.Za|apply Kd.Ud));exact HO_3.out⟩,⟨by (try simp only [hl3_1]);(with_reducible repeat (first|apply Kd.Zc|apply Kd.Za|apply Kd.Ud));exact HO_5.out⟩,⟨bl_ HB⟩⟩
          ·replace c21:=Bool.eq_false_iff.mpr c21;subst c21
           have H1:(if 0≤(wrap64 (x20_1+1)) then (if (wrap64 (x20_1+1))≤((Xb l0 x20_1).f3) then (if ((Xb l0 x20_1).f3)≤(y364.length:Int) then ((Yn.f kj14 ((y364.take (((Xb l0 x20_1).f3):Int).toNat).drop ((wrap64 (x20_1+1)):Int).toNat) true).bind fun t374=>(if t374=true then (Ya.l0 kj14 y364 x5_1 l0 (l0.length:Int) (wrap64 (x20_1+1))) else (if 0≤((Xb l0 x20_1).f3) then (if ((Xb l0 x20_1).f3)<(y364.length:Int) then (if rdOf false y364 ((Xb l0 x20_1).f3)=true then (if 0≤x20_1 then (if x20_1<(x5_1.length:Int) then (Ya.l0 kj14 y364 (x5_1.set (x20_1:Int).toNat false) l0 (l0.length:Int) (wrap64 (x20_1+1))) else (none)) else (none)) else (Ya.l0 kj14 y364 x5_1 l0 (l0.length:Int) (wrap64 (x20_1+1)))) else (none)) else (none)))) else (none)) else (none)) else (none))=some r:=by rw [if_neg (show ¬ (false=true) by decide)] at H;exact H
           clear H;have H:=H1;clear H1;obtain ⟨ji22,hji22⟩:∃ j_:Int,(wrap64 (x20_1+1))=j_:=⟨_,rfl⟩
           replace H:(if 0≤(ji22) then (if (ji22)≤((Xb l0 x20_1).f3) then (if ((Xb l0 x20_1).f3)≤(y364.length:Int) then ((Yn.f kj14 ((y364.take (((Xb l0 x20_1).f3):Int).toNat).drop ((ji22):Int).toNat) true).bind fun t374=>(if t374=true then (Ya.l0 kj14 y364 x5_1 l0 (l0.length:Int) ji22) else (if 0≤((Xb l0 x20_1).f3) then (if ((Xb l0 x20_1).f3)<(y364.length:Int) then (if rdOf false y364 ((Xb l0 x20_1).f3)=true then (if 0≤x20_1 then (if x20_1<(x5_1.length:Int) then (Ya.l0 kj14 y364 (x5_1.set (x20_1:Int).toNat false) l0 (l0.length:Int) ji22) else (none)) else (none)) else (Ya.l0 kj14 y364 x5_1 l0 (l0.length:Int) ji22)) else (none)) else (none)))) else (none)) else (none)) else (none))=some r:=by first|(rw [hji22] at H;exact H)|(simp only [hji22] at H ⊢;exact H)
           have hji22w:(IntKind.i64.wrap (x20_1+1))=ji22:=(Xz _).trans hji22;by_cases c23:0≤(ji22)
           ·rw [if_pos c23] at H;have c23b0:=eq_true c23;have c23b1:decide (0≤(ji22))=true:=decide_eq_true c23;clear c23;by_cases c24:(ji22)≤((Xb l0 x20_1).f3)
            ·rw [if_pos c24] at H;have c24b0:=eq_true c24;have c24b1:decide ((ji22)≤((Xb l0 x20_1).f3))=true:=decide_eq_true c24;clear c24;by_cases c25:((Xb l0 x20_1).f3)≤(y364.length:Int)
             ·rw [if_pos c25] at H;have c25b0:=eq_true c25;have c25b1:decide (((Xb l0 x20_1).f3)≤(y364.length:Int))=true:=decide_eq_true c25;clear c25;obtain ⟨y370,hy370⟩:∃ y_:List Bool,y_=((y364.take (((Xb l0 x20_1).f3):Int).toNat).drop ((ji22):Int).toNat):=⟨_,rfl⟩
              replace H:((Yn.f kj14 y370 true).bind fun t374=>(if t374=true then (Ya.l0 kj14 y364 x5_1 l0 (l0.length:Int) ji22) else (if 0≤((Xb l0 x20_1).f3) then (if ((Xb l0 x20_1).f3)<(y364.length:Int) then (if rdOf false y364 ((Xb l0 x20_1).f3)=true then (if 0≤x20_1 then (if x20_1<(x5_1.length:Int) then (Ya.l0 kj14 y364 (x5_1.set (x20_1:Int).toNat false) l0 (l0.length:Int) ji22) else (none)) else (none)) else (Ya.l0 kj14 y364 x5_1 l0 (l0.length:Int) ji22)) else (none)) else (none))))=some r:=by subst hy370;first|with_reducible exact H|(have z:=(Option.bind_some _ _).symm.trans H;with_reducible exact z)|exact H
              have Ny370:=Xa.mk hy370;clear hy370;replace H:=Option.bind_eq_some_iff.mp H;obtain ⟨t374,A260,H⟩:=H;replace H:(if t374=true then (Ya.l0 kj14 y364 x5_1 l0 (l0.length:Int) ji22) else (if 0≤((Xb l0 x20_1).f3) then (if ((Xb l0 x20_1).f3)<(y364.length:Int) then (if rdOf false y364 ((Xb l0 x20_1).f3)=true then (if 0≤x20_1 then (if x20_1<(x5_1.length:Int) then (Ya.l0 kj14 y364 (x5_1.set (x20_1:Int).toNat false) l0 (l0.length:Int) ji22) else (none)) else (none)) else (Ya.l0 kj14 y364 x5_1 l0 (l0.length:Int) ji22)) else (none)) else (none)))=some r:=H;have A26:=Xa.mk A260;clear A260;by_cases c27:t374=true
              ·subst c27
               have H1:(Ya.l0 kj14 y364 x5_1 l0 (l0.length:Int) ji22)=some r:=by rw [if_pos rfl] at H;exact H
               clear H;have H:=H1;clear H1;have H':=Xa.mk H;clear H;obtain ⟨hcz28_0,hcz28_1,hcz28_2,hcz28_3⟩:=Zp BK369.out;obtain ⟨hfz28_0,hfz28_1,hfz28_2,hfz28_3⟩:=Zq BK369.out;have q29:(((Xb l0 x20_1).f3):Int)≤((y364.length:Int):Int):=of_decide_eq_true (by first|(with_reducible assumption)|assumption);obtain ⟨i029,hi029,_,hsz29,_⟩:=info_parts info4;have hroom29:y364.length≤co6:=(Kd.R_reads' HO_3.out).2.1;have hC29:Kd.C Kd.bool _ (some ⟨go6,0,none⟩) y364.length y364:=(Kd.R_reads' HO_3.out).2.2;have ql29:((ji22):Int)≤(((Xb l0 x20_1).f3):Int):=of_decide_eq_true (by first|(with_reducible assumption)|assumption);have q029:(0:Int)≤((ji22):Int):=of_decide_eq_true (by first|(with_reducible assumption)|assumption);have hcut29:=cut_mid (P:=Try.prog) 34 4 .i64 .i64 Try.underlying34 hi029 1 hsz29 (some ⟨go6,0,none⟩) y364.length co6 (ji22) ((Xb l0 x20_1).f3) q029 ql29 q29 hroom29;have hr29:=Kd.C_mid (lo:=((ji22):Int).toNat) (hi:=(((Xb l0 x20_1).f3):Int).toNat) (c:=co6) hC29 (by omega) (by omega) hroom29;obtain ⟨A29,hA29⟩:∃ A1,A1=(if co6=((ji22):Int).toNat then (some ⟨go6,0,none⟩) else ((some ⟨go6,0,none⟩):Option Addr).map (·.add (((ji22):Int).toNat * 1))):=⟨_,rfl⟩;obtain ⟨c29,hc29⟩:∃ c1,c1=co6 - ((ji22):Int).toNat:=⟨_,rfl⟩;have hy29:y370.length=(((Xb l0 x20_1).f3):Int).toNat - ((ji22):Int).toNat:=(by rw [Ny370.out,List.length_drop,List.length_take] <;> omega);rw [show ((y364).take (((Xb l0 x20_1).f3):Int).toNat).drop ((ji22):Int).toNat=y370 from Ny370.out.symm] at hr29;replace hr29:Kd.C Kd.bool _ A29 y370.length y370:=(by rw [hA29];exact hr29);rw [← hy29,← hA29,← hc29] at hcut29;have HR373:=Xa.mk hr29;have HC373:=Xa.mk (show y370.length≤c29 from by rw [hy29,hc29];exact Nat.sub_le_sub_right (Nat.le_trans (by omega) hroom29) _);clear hr29 hC29 hroom29 hi029 hsz29 hc29;have KY29:=Xa.mk hy29;have KA29:=Xa.mk hA29;clear hy29 hA29;have KL29:=Xa.mk (show (((Xb l0 x20_1).f3):Int).toNat≤y364.length from by omega);have KM29:=Xa.mk (show ((ji22):Int).toNat≤(((Xb l0 x20_1).f3):Int).toNat from by omega);replace q29:=eq_true q29;go_wp2_with (first|((with_reducible refine Xe (f:=93) rfl ?_);refine Xv (some 40) rfl rfl Try.func93 (by kernel_rfl) rfl #[.slice A29 y370.length c29,.bool true] rfl ga_ ?_;(with_reducible refine (Yn.calls kj14 _ _ y370 true true _ ?side1 ?side2 A26.out).mono ?_);(case side1=>repeat (first|exact (by repeat (first|(with_reducible exact HR373.out)|(with_reducible refine Kd.Xr ?_ _)|(with_reducible refine Kd.Xt ?_ _)|(with_reducible refine Kd.Yc ?_)|exact HR373.out))|(with_reducible refine Kd.Xr ?_ _)|(with_reducible refine Kd.Xt ?_ _)|(with_reducible refine Kd.Yc ?_)));(case side2=>exact HC373.out);rintro e w' ⟨rfl,⟨nd,rfl⟩⟩;refine ⟨_,rfl,?_⟩))
               (try simp only [← hl3_1])
               go_roundg kj14
               case measure=>have:=HK1.out;have:=HJ14.out;omega
               case rel=>exact ⟨(x5_1),(ji22),(by first|rfl|(simp;done)|(simp only [← hji22] <;> (first|rfl|simp))|(simp [*];done)),H',⟨by have:=HK1.out;have:=HJ14.out;omega⟩,⟨by (try simp only [hl3_1]);(with_reducible repeat (first|apply Kd.Zc|apply Kd.Za|apply Kd.Ud));exact HO_3.out⟩,⟨by (try simp only [hl3_1]);(with_reducible repeat (first|apply Kd.Zc|apply Kd.Za|apply Kd.Ud));exact HO_5.out⟩,⟨bl_ HB⟩⟩
              ·replace c27:=Bool.eq_false_iff.mpr c27;subst c27
               have H1:(if 0≤((Xb l0 x20_1).f3) then (if ((Xb l0 x20_1).f3)<(y364.length:Int) then (if rdOf false y364 ((Xb l0 x20_1).f3)=true then (if 0≤x20_1 then (if x20_1<(x5_1.length:Int) then (Ya.l0 kj14 y364 (x5_1.set (x20_1:Int).toNat false) l0 (l0.length:Int) ji22) else (none)) else (none)) else (Ya.l0 kj14 y364 x5_1 l0 (l0.length:Int) ji22)) else (none)) else (none))=some r:=by rw [if_neg (show ¬ (false=true) by decide)] at H;exact H
               clear H;have H:=H1;clear H1;by_cases c30:0≤((Xb l0 x20_1).f3)
               ·rw [if_pos c30] at H;have c30b0:decide (0≤((Xb l0 x20_1).f3))=true:=decide_eq_true c30;clear c30;by_cases c31:((Xb l0 x20_1).f3)<(y364.length:Int)
                ·rw [if_pos c31] at H;have c31b0:decide (((Xb l0 x20_1).f3)<(y364.length:Int))=true:=decide_eq_true c31;clear c31;obtain ⟨bq32,hbq32⟩:∃ b_:Bool,b_=(rdOf false y364 ((Xb l0 x20_1).f3)):=⟨_,rfl⟩
                 replace H:(if bq32=true then (if 0≤x20_1 then (if x20_1<(x5_1.length:Int) then (Ya.l0 kj14 y364 (x5_1.set (x20_1:Int).toNat false) l0 (l0.length:Int) ji22) else (none)) else (none)) else (Ya.l0 kj14 y364 x5_1 l0 (l0.length:Int) ji22))=some r:=by rw [← hbq32] at H;exact H
                 have Nbq32:=Xa.mk hbq32;clear hbq32;by_cases c33:bq32=true
                 ·subst c33
                  have H1:(if 0≤x20_1 then (if x20_1<(x5_1.length:Int) then (Ya.l0 kj14 y364 (x5_1.set (x20_1:Int).toNat false) l0 (l0.length:Int) ji22) else (none)) else (none))=some r:=by rw [if_pos rfl] at H;exact H
                  clear H;have H:=H1;clear H1;by_cases c34:0≤x20_1
                  ·rw [if_pos c34] at H;have c34b0:decide (0≤x20_1)=true:=decide_eq_true c34;clear c34;by_cases c35:x20_1<(x5_1.length:Int)
                   ·rw [if_pos c35] at H;have c35b0:decide (x20_1<(x5_1.length:Int))=true:=decide_eq_true c35;clear c35;obtain ⟨y376,hy376⟩:∃ y_:List Bool,y_=(x5_1.set (x20_1:Int).toNat false):=⟨_,rfl⟩
                    replace H:(Ya.l0 kj14 y364 y376 l0 (l0.length:Int) ji22)=some r:=by subst hy376;first|with_reducible exact H|(have z:=(Option.bind_some _ _).symm.trans H;with_reducible exact z)|exact H
                    have Ny376:=Xa.mk hy376;clear hy376;have H':=Xa.mk H;clear H;obtain ⟨hcz37_0,hcz37_1,hcz37_2,hcz37_3⟩:=Zp BK369.out;obtain ⟨hfz37_0,hfz37_1,hfz37_2,hfz37_3⟩:=Zq BK369.out;have q38:(((Xb l0 x20_1).f3):Int)≤((y364.length:Int):Int):=of_decide_eq_true (by first|(with_reducible assumption)|assumption);obtain ⟨i038,hi038,_,hsz38,_⟩:=info_parts info4;have hroom38:y364.length≤co6:=(Kd.R_reads' HO_3.out).2.1;have hC38:Kd.C Kd.bool _ (some ⟨go6,0,none⟩) y364.length y364:=(Kd.R_reads' HO_3.out).2.2;have ql38:((ji22):Int)≤(((Xb l0 x20_1).f3):Int):=of_decide_eq_true (by first|(with_reducible assumption)|assumption);have q038:(0:Int)≤((ji22):Int):=of_decide_eq_true (by first|(with_reducible assumption)|assumption);have hcut38:=cut_mid (P:=Try.prog) 34 4 .i64 .i64 Try.underlying34 hi038 1 hsz38 (some ⟨go6,0,none⟩) y364.length co6 (ji22) ((Xb l0 x20_1).f3) q038 ql38 q38 hroom38;have hr38:=Kd.C_mid (lo:=((ji22):Int).toNat) (hi:=(((Xb l0 x20_1).f3):Int).toNat) (c:=co6) hC38 (by omega) (by omega) hroom38;obtain ⟨A38,hA38⟩:∃ A1,A1=(if co6=((ji22):Int).toNat then (some ⟨go6,0,none⟩) else ((some ⟨go6,0,none⟩):Option Addr).map (·.add (((ji22):Int).toNat * 1))):=⟨_,rfl⟩;obtain ⟨c38,hc38⟩:∃ c1,c1=co6 - ((ji22):Int).toNat:=⟨_,rfl⟩;have hy38:y370.length=(((Xb l0 x20_1).f3):Int).toNat - ((ji22):Int).toNat:=(by rw [Ny370.out,List.length_drop,List.length_take] <;> omega);rw [show ((y364).take (((Xb l0 x20_1).f3):Int).toNat).drop ((ji22):Int).toNat=y370 from Ny370.out.symm] at hr38;replace hr38:Kd.C Kd.bool _ A38 y370.length y370:=(by rw [hA38];exact hr38);rw [← hy38,← hA38,← hc38] at hcut38;have HR373:=Xa.mk hr38;have HC373:=Xa.mk (show y370.length≤c38 from by rw [hy38,hc38];exact Nat.sub_le_sub_right (Nat.le_trans (by omega) hroom38) _);clear hr38 hC38 hroom38 hi038 hsz38 hc38;have KY38:=Xa.mk hy38;have KA38:=Xa.mk hA38;clear hy38 hA38;have KL38:=Xa.mk (show (((Xb l0 x20_1).f3):Int).toNat≤y364.length from by omega);have KM38:=Xa.mk (show ((ji22):Int).toNat≤(((Xb l0 x20_1).f3):Int).toNat from by omega);replace q38:=eq_true q38;go_wp2_with (first|((with_reducible refine Xe (f:=93) rfl ?_);refine Xv (some 40) rfl rfl Try.func93 (by kernel_rfl) rfl #[.slice A38 y370.length c38,.bool true] rfl ga_ ?_;(with_reducible refine (Yn.calls kj14 _ _ y370 true false _ ?side1 ?side2 A26.out).mono ?_);(case side1=>repeat (first|exact (by repeat (first|(with_reducible exact HR373.out)|(with_reducible refine Kd.Xr ?_ _)|(with_reducible refine Kd.Xt ?_ _)|(with_reducible refine Kd.Yc ?_)|exact HR373.out))|(with_reducible refine Kd.Xr ?_ _)|(with_reducible refine Kd.Xt ?_ _)|(with_reducible refine Kd.Yc ?_)));(case side2=>exact HC373.out);rintro e w' ⟨rfl,⟨nd,rfl⟩⟩;refine ⟨_,rfl,?_⟩;(try (rw [drewN_self wc];generalize hq_:World.drewN wc _=wc;have n0_:Xa (Kd.R Kd.bool 4 wc w.heap.size (fun k_=>some k_≠(v366:Value).ownBlock) (.slice (some ⟨go6,0,none⟩) y364.length co6) y364):=⟨by rw [← hq_];exact (Kd.ra_ (HO_3.out))⟩;have n1_:Xa (Kd.R Kd.bool 4 wc w.heap.size (fun k_=>some k_≠(.slice (some ⟨go6,0,none⟩) y364.length co6:Value).ownBlock) v366 x5_1):=⟨by rw [← hq_];exact (Kd.ra_ (HO_5.out))⟩;have n2_:Xa (wc.heap[gb369]?=some (.cells #[.int .i64 ((Xb l0 x20_1).f0),.int .i64 ((Xb l0 x20_1).f1),.int .i64 ((Xb l0 x20_1).f2),.int .i64 ((Xb l0 x20_1).f3)] 47 (0,0))):=⟨by rw [← hq_];exact (ba_ BK369)⟩;have n3_:Xa (Below w.heap.size w wc):=⟨by rw [← hq_];exact (bl_ HB)⟩;have n4_:Xa (Kd.C Kd.bool wc A38 y370.length y370):=⟨by rw [← hq_];exact (by repeat (first|(with_reducible exact HR373.out)|(with_reducible refine Kd.Xr ?_ _)|(with_reducible refine Kd.Xt ?_ _)|(with_reducible refine Kd.Yc ?_)|exact HR373.out))⟩;obtain ⟨hbz_gb369_0,hbz_gb369_1,hbz_gb369_2,hbz_gb369_3⟩:=Zp n2_.out;clear HO_3 HO_5 BK369 HB HR373 hq_;have HO_3:=n0_;have HO_5:=n1_;have BK369:=n2_;have HB:=n3_;have HR373:=n4_;clear n0_ n1_ n2_ n3_ n4_));have p375:0≤(((Xb l0 x20_1).f3):Int):=of_decide_eq_true (by first|(with_reducible assumption)|assumption);have q375:((Xb l0 x20_1).f3)<(y364.length:Int):=of_decide_eq_true (by first|(with_reducible assumption)|assumption);obtain ⟨ad375,e375,hx375_0⟩:=Kd.at_bool (Kd.R_reads' HO_3.out).2.2 ((Xb l0 x20_1).f3) p375 q375;(try rw [← Nbq32.out] at hx375_0);obtain rfl:(⟨go6,0,none⟩:Addr)=ad375:=(by injection e375);(first|simp only [add_plain] at hx375_0|simp only [add_at] at hx375_0|simp only [Addr.add,Nat.zero_add] at hx375_0|skip);replace p375:=eq_true p375;replace q375:=eq_true q375;have p36:0≤(x20_1:Int):=of_decide_eq_true (by first|(with_reducible assumption)|assumption);have q36:(x20_1:Int)<((x5_1.length:Int):Int):=of_decide_eq_true (by first|(with_reducible assumption)|assumption);obtain ⟨go36,co36,eo36,gb36,gl36,cl36,HG36⟩:=Kd.R_form HO_5.out (by omega);(first|cases eo36|(injection eo36 with ea_ en_ ec_;(first|subst ea_|(injection ea_ with ea_;subst ea_));subst ec_;clear en_));have GB36:=Xa.mk gb36;have GG36:=Xa.mk HG36;clear gb36 gl36 HG36;obtain ⟨hx36_0,hf36_0⟩:=Kd.R_celln false HO_5.out (x20_1:Int) p36 q36;replace p36:=eq_true p36;replace q36:=eq_true q36;obtain ⟨hy39_,hz39_⟩:=Kd.R_celln false HO_5.out (x20_1:Int) (of_decide_eq_true (by first|(with_reducible assumption)|assumption)) (of_decide_eq_true (by first|(with_reducible assumption)|assumption));have HP39:=Kd.R_putg HO_5.out (x20_1:Int) false)|((with_reducible refine Uk (t:=4) (p:=51) rfl ?_);refine Uf (t:=4) (p:=51) (v:=?vo_w40) (w1:=(wc.setCell ⟨go36,(x20_1:Int).toNat,none⟩ (.bool false))) ?hg ?ho ?hn ?hr ?_;(case ho=>rfl);(case hg=>rfl);(case hn=>rfl);(case hr=>first|(go_simp;done)|(go_simp;rfl));intro w40 hw;have hg:wc.grownBy w40 (some go36):=(by rw [hw];exact HP39.2);have hp_:Kd.R Kd.bool 4 w40 w.heap.size (fun k_=>some k_≠(.slice (some ⟨go6,0,none⟩) y364.length co6:Value).ownBlock) (.slice (some ⟨go36,0,none⟩) x5_1.length co36) y376:=(by rw [hw,Ny376.out];exact HP39.1);clear HP39;have n0_:=Xa.mk (Kd.R_after (v:=(.slice (some ⟨go36,0,none⟩) x5_1.length co36)) (v1:=(.slice (some ⟨go36,0,none⟩) x5_1.length co36)) (ok:=(fun _=>True)) (Kd.ra_ (Kd.Yd HO_3.out (fun _ hk=>⟨trivial,hk⟩))) hg (.inl rfl));have n1_:=Xa.mk (hp_);have n2_:=Xa.mk (blk_grown (g:=gb369) (o:=.cells #[.int .i64 ((Xb l0 x20_1).f0),.int .i64 ((Xb l0 x20_1).f1),.int .i64 ((Xb l0 x20_1).f2),.int .i64 ((Xb l0 x20_1).f3)] 47 (0,0)) (ba_ BK369) hg (Kd.R_ne HO_5.out BK369.out (by decide)));have n3_:=Xa.mk ((by rw [hw];exact Ug (HB.out) GB36.out:Below w.heap.size w w40));have n4_:=Xa.mk ((show Kd.C Kd.bool w40 A38 y370.length y370 from by rw [Ny370.out,KA38.out];exact Kd.C_mid (lo:=((ji22):Int).toNat) (hi:=(((Xb l0 x20_1).f3):Int).toNat) (c:=co6) ((Kd.R_reads' (Kd.R_after (v:=(.slice (some ⟨go36,0,none⟩) x5_1.length co36)) (v1:=(.slice (some ⟨go36,0,none⟩) x5_1.length co36)) (ok:=(fun _=>True)) (Kd.ra_ (Kd.Yd HO_3.out (fun _ hk=>⟨trivial,hk⟩))) hg (.inl rfl))).2.2) KM38.out KL38.out ((Kd.R_reads' (Kd.R_after (v:=(.slice (some ⟨go36,0,none⟩) x5_1.length co36)) (v1:=(.slice (some ⟨go36,0,none⟩) x5_1.length co36)) (ok:=(fun _=>True)) (Kd.ra_ (Kd.Yd HO_3.out (fun _ hk=>⟨trivial,hk⟩))) hg (.inl rfl))).2.1)));clear HO_3;clear HO_5;clear BK369;clear HB;clear HR373;have HO_3:=n0_;have HO_5:=n1_;have BK369:=n2_;have HB:=n3_;have HR373:=n4_;clear n0_ n1_ n2_ n3_ n4_;clear hg hw hp_))
                    (try simp only [← hl3_1])
                    go_roundg kj14
                    case measure=>have:=HK1.out;have:=HJ14.out;omega
                    case rel=>exact ⟨(y376),(ji22),(by first|rfl|(simp;done)|(simp only [← hji22] <;> (first|rfl|simp))|(simp [*];done)),H',⟨by have:=HK1.out;have:=HJ14.out;omega⟩,⟨by (try simp only [hl3_1]);(with_reducible repeat (first|apply Kd.Zc|apply Kd.Za|apply Kd.Ud));exact Kd.Yd HO_3.out (fun _ hk=>hk.2)⟩,⟨by (try simp only [hl3_1]);(with_reducible repeat (first|apply Kd.Zc|apply Kd.Za|apply Kd.Ud));exact HO_5.out⟩,⟨bl_ HB⟩⟩
                   ·rw [if_neg c35] at H;exact absurd H (by simp)
                  ·rw [if_neg c34] at H;exact absurd H (by simp)
                 ·replace c33:=Bool.eq_false_iff.mpr c33;subst c33
                  have H1:(Ya.l0 kj14 y364 x5_1 l0 (l0.length:Int) ji22)=some r:=by rw [if_neg (show ¬ (false=true) by decide)] at H;exact H
                  clear H;have H:=H1;clear H1;have H':=Xa.mk H;clear H;obtain ⟨hcz41_0,hcz41_1,hcz41_2,hcz41_3⟩:=Zp BK369.out;obtain ⟨hfz41_0,hfz41_1,hfz41_2,hfz41_3⟩:=Zq BK369.out;have q42:(((Xb l0 x20_1).f3):Int)≤((y364.length:Int):Int):=of_decide_eq_true (by first|(with_reducible assumption)|assumption);obtain ⟨i042,hi042,_,hsz42,_⟩:=info_parts info4;have hroom42:y364.length≤co6:=(Kd.R_reads' HO_3.out).2.1;have hC42:Kd.C Kd.bool _ (some ⟨go6,0,none⟩) y364.length y364:=(Kd.R_reads' HO_3.out).2.2;have ql42:((ji22):Int)≤(((Xb l0 x20_1).f3):Int):=of_decide_eq_true (by first|(with_reducible assumption)|assumption);have q042:(0:Int)≤((ji22):Int):=of_decide_eq_true (by first|(with_reducible assumption)|assumption);have hcut42:=cut_mid (P:=Try.prog) 34 4 .i64 .i64 Try.underlying34 hi042 1 hsz42 (some ⟨go6,0,none⟩) y364.length co6 (ji22) ((Xb l0 x20_1).f3) q042 ql42 q42 hroom42;have hr42:=Kd.C_mid (lo:=((ji22):Int).toNat) (hi:=(((Xb l0 x20_1).f3):Int).toNat) (c:=co6) hC42 (by omega) (by omega) hroom42;obtain ⟨A42,hA42⟩:∃ A1,A1=(if co6=((ji22):Int).toNat then (some ⟨go6,0,none⟩) else ((some ⟨go6,0,none⟩):Option Addr).map (·.add (((ji22):Int).toNat * 1))):=⟨_,rfl⟩;obtain ⟨c42,hc42⟩:∃ c1,c1=co6 - ((ji22):Int).toNat:=⟨_,rfl⟩;have hy42:y370.length=(((Xb l0 x20_1).f3):Int).toNat - ((ji22):Int).toNat:=(by rw [Ny370.out,List.length_drop,List.length_take] <;> omega);rw [show ((y364).take (((Xb l0 x20_1).f3):Int).toNat).drop ((ji22):Int).toNat=y370 from Ny370.out.symm] at hr42;replace hr42:Kd.C Kd.bool _ A42 y370.length y370:=(by rw [hA42];exact hr42);rw [← hy42,← hA42,← hc42] at hcut42;have HR373:=Xa.mk hr42;have HC373:=Xa.mk (show y370.length≤c42 from by rw [hy42,hc42];exact Nat.sub_le_sub_right (Nat.le_trans (by omega) hroom42) _);clear hr42 hC42 hroom42 hi042 hsz42 hc42;have KY42:=Xa.mk hy42;have KA42:=Xa.mk hA42;clear hy42 hA42;have KL42:=Xa.mk (show (((Xb l0 x20_1).f3):Int).toNat≤y364.length from by omega);have KM42:=Xa.mk (show ((ji22):Int).toNat≤(((Xb l0 x20_1).f3):Int).toNat from by omega);replace q42:=eq_true q42;go_wp2_with (first|((with_reducible refine Xe (f:=93) rfl ?_);refine Xv (some 40) rfl rfl Try.func93 (by kernel_rfl) rfl #[.slice A42 y370.length c42,.bool true] rfl ga_ ?_;(with_reducible refine (Yn.calls kj14 _ _ y370 true false _ ?side1 ?side2 A26.out).mono ?_);(case side1=>repeat (first|exact (by repeat (first|(with_reducible exact HR373.out)|(with_reducible refine Kd.Xr ?_ _)|(with_reducible refine Kd.Xt ?_ _)|(with_reducible refine Kd.Yc ?_)|exact HR373.out))|(with_reducible refine Kd.Xr ?_ _)|(with_reducible refine Kd.Xt ?_ _)|(with_reducible refine Kd.Yc ?_)));(case side2=>exact HC373.out);rintro e w' ⟨rfl,⟨nd,rfl⟩⟩;refine ⟨_,rfl,?_⟩;have p375:0≤(((Xb l0 x20_1).f3):Int):=of_decide_eq_true (by first|(with_reducible assumption)|assumption);have q375:((Xb l0 x20_1).f3)<(y364.length:Int):=of_decide_eq_true (by first|(with_reducible assumption)|assumption);obtain ⟨ad375,e375,hx375_0⟩:=Kd.at_bool (Kd.R_reads' HO_3.out).2.2 ((Xb l0 x20_1).f3) p375 q375;(try rw [← Nbq32.out] at hx375_0);obtain rfl:(⟨go6,0,none⟩:Addr)=ad375:=(by injection e375);(first|simp only [add_plain] at hx375_0|simp only [add_at] at hx375_0|simp only [Addr.add,Nat.zero_add] at hx375_0|skip);replace p375:=eq_true p375;replace q375:=eq_true q375))
                  (try simp only [← hl3_1])
                  go_roundg kj14
                  case measure=>have:=HK1.out;have:=HJ14.out;omega
                  case rel=>exact ⟨(x5_1),(ji22),(by first|rfl|(simp;done)|(simp only [← hji22] <;> (first|rfl|simp))|(simp [*];done)),H',⟨by have:=HK1.out;have:=HJ14.out;omega⟩,⟨by (try simp only [hl3_1]);(with_reducible repeat (first|apply Kd.Zc|apply Kd.Za|apply Kd.Ud));exact HO_3.out⟩,⟨by (try simp only [hl3_1]);(with_reducible repeat (first|apply Kd.Zc|apply Kd.Za|apply Kd.Ud));exact HO_5.out⟩,⟨bl_ HB⟩⟩
                ·rw [if_neg c31] at H;exact absurd H (by simp)
               ·rw [if_neg c30] at H;exact absurd H (by simp)
             ·rw [if_neg c25] at H;exact absurd H (by simp)
            ·rw [if_neg c24] at H;exact absurd H (by simp)
           ·rw [if_neg c23] at H;exact absurd H (by simp)
       ·rw [if_neg c14] at H;exact absurd H (by simp)
      ·rw [if_neg c13] at H;exact absurd H (by simp)
     ·rw [if_neg c12] at H;have c12b0:decide (x20_1<(l0.length:Int))=false:=decide_eq_false c12;clear c12;obtain rfl:=Option.some.inj H;go_wp2
      go_ret
      exact ⟨_,by first|rfl|(simp [errW_none,errW_some] <;> rfl)|(simp only [← hji3];first|rfl|(simp [errW_none,errW_some] <;> rfl))|(simp [*,errW_none,errW_some] <;> rfl),Kd.ra_ (Kd.Yd HO_5.out (fun _ hk=>trivial)),bl_ HB⟩
  ·rw [if_neg c5] at H;exact absurd H (by simp)
 ·rw [if_neg c4] at H;exact absurd H (by simp)
end Go.Proofs.Ytjmlpgpkmhjdiaa.GSlim
