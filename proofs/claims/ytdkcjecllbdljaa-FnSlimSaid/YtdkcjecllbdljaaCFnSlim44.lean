import Derived.Test.YtdkcjecllbdljaaCFnSlim21
import Derived.Test.YtdkcjecllbdljaaCFnSlim42
import Derived.Test.YtdkcjecllbdljaaCFnSlim43
namespace Go.Proofs.Ytdkcjecllbdljaa.GSlim
open Go.RowKit Go.Proofs.YtdkcjecllbdljaaW.PrintWords Go.Proofs.YtdkcjecllbdljaaW.PrintLast Go.Proofs.YtdkcjecllbdljaaW.PrintMore
attribute [local go_sem] Zv Zx Un Uo Zm Zn Zw Zy
set_option linter.unusedVariables false
set_option linter.unusedSimpArgs false
def Yv.l0:Nat→List Bool→Bool→Int→Int→Option (Int)
 |0,_,_,_,_=>none
 |k+1,x0,x1,x7,x8=>if x8<x7 then (if 0≤x8 then (if x8<(x0.length:Int) then (if (x1 == (rdOf false x0 x8))=true then (some x8) else (Yv.l0 k x0 x1 x7 (wrap64 (x8+1)))) else (none)) else (none)) else (some (-1))
def Yv.f (k:Nat) (l0:List Bool) (a1:Bool):Option (Int):=Yv.l0 k l0 a1 (l0.length:Int) 0
set_option maxHeartbeats 8000000 in
set_option maxRecDepth 100000 in
theorem Yv.calls (k:Nat) (A0:Option Addr) (c0:Nat) (l0:List Bool) (a1:Bool) (r:Int) (w:World) (hr0:Kd.C Kd.bool w A0 l0.length l0) (hc0:l0.length≤c0) (h:Yv.f k l0 a1=some r) :
  Calls Try.prog 67 #[.slice A0 l0.length c0,.bool a1] w fun e w'=>e=.returned (.int .i64 r)∧Yn w w':=by
 have HR0:=Xa.mk hr0;have HC0:=Xa.mk hc0;clear hr0 hc0;have H:(Yv.l0 k l0 a1 (l0.length:Int) 0)=some r:=h;clear h;have H':=Xa.mk H;clear H
 go_enter Try.func67,Try.ntmps67
 go_wp2
 go_loopg [8] k (fun kq v8 w'=>∃ (x8_1:Int),v8=.int .i64 x8_1∧Xa (Yv.l0 kq l0 a1 (l0.length:Int) x8_1=some r)∧Xa (kq≤k)∧Yn w w')
 case atStart=>exact ⟨(0),(by first|rfl|(simp;done)|(simp [*];done)),H',⟨Nat.le_refl _⟩,by repeat (first|exact Yn.refl _|apply Yn.step)⟩
 case round=>
  clear H'
  try clear p2
  obtain ⟨x8_1,rfl,HA,HK1,⟨m1,rfl⟩⟩:=hrel
  cases gk with
  |zero=>exact absurd HA.out (by simp [Yv.l0])
  |succ k1=>
   have H:=HA.out;clear HA;simp only [Yv.l0] at H;by_cases c3:x8_1<(l0.length:Int)
   ·rw [if_pos c3] at H;have c3b0:decide (x8_1<(l0.length:Int))=true:=decide_eq_true c3;clear c3;by_cases c4:0≤x8_1
    ·rw [if_pos c4] at H;have c4b0:decide (0≤x8_1)=true:=decide_eq_true c4;clear c4;by_cases c5:x8_1<(l0.length:Int)
     ·rw [if_pos c5] at H;have c5b0:decide (x8_1<(l0.length:Int))=true:=decide_eq_true c5;clear c5;by_cases c6:(a1 == (rdOf false l0 x8_1))=true
      ·rw [if_pos c6] at H;have c6b0:(a1 == (rdOf false l0 x8_1))=true:=c6
       (try (have c6b1:decide (a1=(rdOf false l0 x8_1))=true:=by simpa using c6))
       (try (have c6b2:(a1 == (rdOf false l0 x8_1))=true:=by simpa using c6))
       clear c6;obtain rfl:=Option.some.inj H;have p474:0≤(x8_1:Int):=of_decide_eq_true (by first|(with_reducible assumption)|assumption);have q474:x8_1<(l0.length:Int):=of_decide_eq_true (by first|(with_reducible assumption)|assumption);obtain ⟨ad474,e474,hx474_0⟩:=Kd.at_bool HR0.out x8_1 p474 q474;cases e474
       replace p474:=eq_true p474;replace q474:=eq_true q474;go_wp2
       go_ret
       exact ⟨by first|rfl|(simp;done)|(simp [*];done),by repeat (first|exact Yn.refl _|apply Yn.step)⟩
      ·rw [if_neg c6] at H
       have c6b0:(a1 == (rdOf false l0 x8_1))=false:=by simpa using c6
       (try (have c6b1:decide (a1=(rdOf false l0 x8_1))=false:=by simpa using c6))
       (try (have c6b2:(a1 == (rdOf false l0 x8_1))=false:=by simpa using c6))
       (try (have c6b3:¬ (a1=(rdOf false l0 x8_1)):=by simpa using c6))
       clear c6;have H':=Xa.mk H;clear H;have p474:0≤(x8_1:Int):=of_decide_eq_true (by first|(with_reducible assumption)|assumption);have q474:x8_1<(l0.length:Int):=of_decide_eq_true (by first|(with_reducible assumption)|assumption);obtain ⟨ad474,e474,hx474_0⟩:=Kd.at_bool HR0.out x8_1 p474 q474;cases e474
       replace p474:=eq_true p474;replace q474:=eq_true q474;go_wp2
       go_roundg k1
       case measure=>have:=HK1.out;omega
       case rel=>exact ⟨(wrap64 (x8_1+1)),(by first|rfl|(simp;done)|(simp [*];done)),H',⟨by have:=HK1.out;omega⟩,by repeat (first|exact Yn.refl _|apply Yn.step)⟩
     ·rw [if_neg c5] at H;exact absurd H (by simp)
    ·rw [if_neg c4] at H;exact absurd H (by simp)
   ·rw [if_neg c3] at H;have c3b0:decide (x8_1<(l0.length:Int))=false:=decide_eq_false c3;clear c3;obtain rfl:=Option.some.inj H;go_wp2
    go_ret
    exact ⟨by first|rfl|(simp;done)|(simp [*];done),by repeat (first|exact Yn.refl _|apply Yn.step)⟩
def Zk.f (k:Nat) (l0:List Bool) (a1:Bool):Option (Bool):=(Yv.f k l0 a1).bind fun t475=>(some (decide (t475 ≥ 0)))
set_option maxHeartbeats 8000000 in
set_option maxRecDepth 100000 in
theorem Zk.calls (k:Nat) (A0:Option Addr) (c0:Nat) (l0:List Bool) (a1:Bool) (r:Bool) (w:World) (hr0:Kd.C Kd.bool w A0 l0.length l0) (hc0:l0.length≤c0) (h:Zk.f k l0 a1=some r) :
  Calls Try.prog 58 #[.slice A0 l0.length c0,.bool a1] w fun e w'=>e=.returned (.bool r)∧Yn w w':=by
 have HR0:=Xa.mk hr0;have HC0:=Xa.mk hc0;clear hr0 hc0;have H:((Yv.f k l0 a1).bind fun t475=>(some (decide (t475 ≥ 0))))=some r:=h;clear h;replace H:=Option.bind_eq_some_iff.mp H;obtain ⟨t475,A30,H⟩:=H;replace H:(some (decide (t475 ≥ 0)))=some r:=H;have A3:=Xa.mk A30;clear A30;obtain rfl:=Option.some.inj H
 go_enter Try.func58,Try.ntmps58
 go_wp2_with (first|((with_reducible refine Xf (f:=67) rfl ?_);refine Yf (some 7) rfl rfl Try.func67 (by kernel_rfl) rfl #[.slice A0 l0.length c0,.bool a1] rfl ga_ ?_;(with_reducible refine (Yv.calls k _ _ l0 a1 t475 _ ?side1 ?side2 A3.out).mono ?_);(case side1=>repeat (first|exact HR0.out|(with_reducible refine Kd.Xq ?_ _)|(with_reducible refine Kd.Xr ?_ _)|(with_reducible refine Kd.Yc ?_)));(case side2=>exact HC0.out);rintro e w' ⟨rfl,⟨nd,rfl⟩⟩;refine ⟨_,rfl,?_⟩))
 go_ret
 exact ⟨by first|rfl|(simp;done)|(simp [*];done),by repeat (first|exact Yn.refl _|apply Yn.step)⟩
mutual
def Yt.l0:Nat→List Bool→List Bool→List (S31)→Int→Int→Option (List Bool)
 |0,_,_,_,_,_=>none
 |k+1,x3,x5,x18,x19,x20=>if x20<x19 then (if 0≤x20 then (if x20<(x18.length:Int) then (if ((Xb x18 x20).f0)=7 then (Yt.j1 k x3 x5 x20 x18 x19 x20 (decide (((Xb x18 x20).f3)≤x20)) ((Xb x18 x20).f0) ((Xb x18 x20).f1) ((Xb x18 x20).f2) ((Xb x18 x20).f3)) else (Yt.j1 k x3 x5 x20 x18 x19 x20 true ((Xb x18 x20).f0) ((Xb x18 x20).f1) ((Xb x18 x20).f2) ((Xb x18 x20).f3))) else (none)) else (none)) else (some x5)
def Yt.j1:Nat→List Bool→List Bool→Int→List (S31)→Int→Int→Bool→Int→Int→Int→Int→Option (List Bool)
 |0,_,_,_,_,_,_,_,_,_,_,_=>none
 |k+1,x3,x5,x6,x18,x19,x20,x33,x485000,x485001,x485002,x485003=>if x33=true then (Yt.l0 k x3 x5 x18 x19 (wrap64 (x20+1))) else (if 0≤(wrap64 (x6+1)) then (if (wrap64 (x6+1))≤x485003 then (if x485003≤(x3.length:Int) then ((Zk.f k ((x3.take (x485003:Int).toNat).drop ((wrap64 (x6+1)):Int).toNat) true).bind fun t489=>(if t489=true then (Yt.l0 k x3 x5 x18 x19 (wrap64 (x20+1))) else (if 0≤x485003 then (if x485003<(x3.length:Int) then (if rdOf false x3 x485003=true then (if 0≤x6 then (if x6<(x5.length:Int) then (Yt.l0 k x3 (x5.set (x6:Int).toNat false) x18 x19 (wrap64 (x20+1))) else (none)) else (none)) else (Yt.l0 k x3 x5 x18 x19 (wrap64 (x20+1)))) else (none)) else (none)))) else (none)) else (none)) else (none))
end
def Yt.f (k:Nat) (l0:List (S31)):Option (List Bool):=(impl_reach.f k l0).bind fun t476=>(if 0≤(wrap64 ((l0.length:Int) - 1)) then (if (wrap64 ((l0.length:Int) - 1))<(t476.length:Int) then ((some (t476.set ((wrap64 ((l0.length:Int) - 1)):Int).toNat true:List Bool)).bind fun y479=>((Zz.f y479).bind fun t480=>(Yt.l0 k y479 t480 l0 (l0.length:Int) 0))) else (none)) else (none))
set_option maxHeartbeats 8000000 in
set_option maxRecDepth 100000 in
theorem Yt.calls (k:Nat) (A0:Option Addr) (c0:Nat) (l0:List (S31)) (r:List Bool) (w:World) (hr0:Kd.C k31 w A0 l0.length l0) (hc0:l0.length≤c0) (h:Yt.f k l0=some r) :
  Calls Try.prog 36 #[.slice A0 l0.length c0] w fun e w'=>∃ v0_:Value,e=.returned (v0_)∧Kd.R Kd.bool 4 w' w.heap.size (fun _=>True) v0_ r∧Below w.heap.size w w':=by
 have hu31:=Try.underlying31;have HR0:=Xa.mk hr0;have HC0:=Xa.mk hc0;clear hr0 hc0;have HB:=Xa.mk (Below.refl w.heap.size w);have H:((impl_reach.f k l0).bind fun t476=>(if 0≤(wrap64 ((l0.length:Int) - 1)) then (if (wrap64 ((l0.length:Int) - 1))<(t476.length:Int) then ((some (t476.set ((wrap64 ((l0.length:Int) - 1)):Int).toNat true:List Bool)).bind fun y479=>((Zz.f y479).bind fun t480=>(Yt.l0 k y479 t480 l0 (l0.length:Int) 0))) else (none)) else (none)))=some r:=h;clear h;replace H:=Option.bind_eq_some_iff.mp H;obtain ⟨t476,A20,H⟩:=H;replace H:(if 0≤(wrap64 ((l0.length:Int) - 1)) then (if (wrap64 ((l0.length:Int) - 1))<(t476.length:Int) then ((some (t476.set ((wrap64 ((l0.length:Int) - 1)):Int).toNat true:List Bool)).bind fun y479=>((Zz.f y479).bind fun t480=>(Yt.l0 k y479 t480 l0 (l0.length:Int) 0))) else (none)) else (none))=some r:=H;have A2:=Xa.mk A20;clear A20;obtain ⟨ji3,hji3⟩:∃ j_:Int,(wrap64 ((l0.length:Int) - 1))=j_:=⟨_,rfl⟩
 replace H:(if 0≤(ji3) then (if (ji3)<(t476.length:Int) then ((some (t476.set ((ji3):Int).toNat true:List Bool)).bind fun y479=>((Zz.f y479).bind fun t480=>(Yt.l0 k y479 t480 l0 (l0.length:Int) 0))) else (none)) else (none))=some r:=by first|(rw [hji3] at H;exact H)|(simp only [hji3] at H ⊢;exact H)
 (try rw [hji3] at A2)
 have hji3w:(IntKind.i64.wrap ((l0.length:Int) - 1))=ji3:=(Xy _).trans hji3;by_cases c4:0≤(ji3)
 ·rw [if_pos c4] at H;have c4b0:decide (0≤(ji3))=true:=decide_eq_true c4;clear c4;by_cases c5:(ji3)<(t476.length:Int)
  ·rw [if_pos c5] at H;have c5b0:decide ((ji3)<(t476.length:Int))=true:=decide_eq_true c5;clear c5;obtain ⟨y479,hy479⟩:∃ y_:List Bool,y_=(t476.set ((ji3):Int).toNat true):=⟨_,rfl⟩
   replace H:((Zz.f y479).bind fun t480=>(Yt.l0 k y479 t480 l0 (l0.length:Int) 0))=some r:=by subst hy479;first|with_reducible exact H|(have z:=(Option.bind_some _ _).symm.trans H;with_reducible exact z)|exact H
   have Ny479:=Xa.mk hy479;clear hy479;replace H:=Option.bind_eq_some_iff.mp H;obtain ⟨t480,A70,H⟩:=H;replace H:(Yt.l0 k y479 t480 l0 (l0.length:Int) 0)=some r:=H;have A7:=Xa.mk A70;clear A70;have H':=Xa.mk H;clear H
   go_enter Try.func36,Try.ntmps36
   go_wp2_with (first|((with_reducible refine Xf (f:=25) rfl ?_);refine Yf (some 9) rfl rfl Try.func25 (by kernel_rfl) rfl #[.slice A0 l0.length c0] rfl ga_ ?_;(with_reducible refine (impl_reach.calls k _ _ l0 t476 _ ?side1 ?side2 A2.out).mono ?_);(case side1=>repeat (first|exact HR0.out|(with_reducible refine Kd.Xq ?_ _)|(with_reducible refine Kd.Xr ?_ _)|(with_reducible refine Kd.Yc ?_)));(case side2=>exact HC0.out);rintro e w8 ⟨v477,rfl,ho0,hb⟩;refine ⟨_,rfl,?_⟩;have n0_:=Xa.mk (Kd.Yg ho0 (Xc (bl_ HB)));have n1_:=Xa.mk (Xd (bl_ HB) hb);clear HB;have HO478:=n0_;have HB:=n1_;clear n0_ n1_;(try clear hb);(try clear hb2);(try clear hk);(try clear hi);(try clear ho0);have p6:0≤((ji3):Int):=of_decide_eq_true (by first|(with_reducible assumption)|assumption);have q6:((ji3):Int)<((t476.length:Int):Int):=of_decide_eq_true (by first|(with_reducible assumption)|assumption);obtain ⟨go6,co6,eo6,gb6,gl6,cl6,HG6⟩:=Kd.R_form HO478.out (by omega);(first|cases eo6|(injection eo6 with ea_ en_ ec_;(first|subst ea_|(injection ea_ with ea_;subst ea_));subst ec_;clear en_));have GB6:=Xa.mk gb6;have GG6:=Xa.mk HG6;clear gb6 gl6 HG6;obtain ⟨hx6_0,hf6_0⟩:=Kd.R_celln false HO478.out ((ji3):Int) p6 q6;replace p6:=eq_true p6;replace q6:=eq_true q6;obtain ⟨hy9_,hz9_⟩:=Kd.R_celln false HO478.out ((ji3):Int) (of_decide_eq_true (by first|(with_reducible assumption)|assumption)) (of_decide_eq_true (by first|(with_reducible assumption)|assumption));have HP9:=Kd.R_putg HO478.out ((ji3):Int) true)|((with_reducible refine gate_store (t:=4) (p:=15) rfl ?_);refine Wh (t:=4) (p:=15) (v:=?vo_w10) (w1:=(w8.setCell ⟨go6,((ji3):Int).toNat,none⟩ (.bool true))) ?hg ?ho ?hn ?hr ?_;(case ho=>rfl);(case hg=>rfl);(case hn=>rfl);(case hr=>first|(go_simp;done)|(go_simp;rfl));intro w10 hw;have hg:w8.grownBy w10 (some go6):=(by rw [hw];exact HP9.2);have hp_:Kd.R Kd.bool 4 w10 w.heap.size (fun _=>True) (.slice (some ⟨go6,0,none⟩) t476.length co6) y479:=(by rw [hw,Ny479.out];exact HP9.1);clear HP9;have n0_:=Xa.mk (hp_);have n1_:=Xa.mk ((by rw [hw];exact below_set (HB.out) GB6.out:Below w.heap.size w w10));clear HO478;clear HB;have HO478:=n0_;have HB:=n1_;clear n0_ n1_;clear hg hw hp_)|((with_reducible refine Xf (f:=57) rfl ?_);refine Yf (some 17) rfl rfl Try.func57 (by kernel_rfl) rfl #[.slice (some ⟨go6,0,none⟩) y479.length co6] rfl (by (try simp only [List.map_toArray,List.map_cons,List.map_nil]);first|done|(rw [show y479.length=t476.length from (Kd.R_reads' HO478.out).1.symm] <;> rfl)|rfl|(simp only [List.length_drop,List.length_take];rfl)) ?_;(with_reducible refine (Zz.calls _ _ y479 t480 _ ?side1 ?side2 A7.out).mono ?_);(case side1=>repeat (first|exact (Kd.R_reads' HO478.out).2.2|(with_reducible refine Kd.Xq ?_ _)|(with_reducible refine Kd.Xr ?_ _)|(with_reducible refine Kd.Yc ?_)));(case side2=>rw [show y479.length=t476.length from (Kd.R_reads' HO478.out).1.symm];exact (Kd.R_reads' HO478.out).2.1);rintro e w11 ⟨v481,rfl,ho0,hb⟩;refine ⟨_,rfl,?_⟩;have n0_:=Xa.mk (Kd.R_elder' (Kd.ra_ (HO478.out)) (Kd.Zj ho0) hb);have n1_:=Xa.mk (Kd.Yg (Kd.R_new' ho0 (Kd.Ut (Kd.ra_ (HO478.out)))) (Xc (bl_ HB)));have n2_:=Xa.mk (Xd (bl_ HB) hb);clear HO478;clear HB;have HO478:=n0_;have HO482:=n1_;have HB:=n2_;clear n0_ n1_ n2_;(try clear hb);(try clear hb2);(try clear hk);(try clear hi);(try clear ho0)))
   go_loopg [20] k (fun kq v20 w'=>∃ (x5_1:List Bool) (x20_1:Int),v20=.int .i64 x20_1∧Xa (Yt.l0 kq y479 x5_1 l0 (l0.length:Int) x20_1=some r)∧Xa (kq≤k)∧Xa (Kd.R Kd.bool 4 w' w.heap.size (fun k_=>some k_≠(v481:Value).ownBlock) (.slice (some ⟨go6,0,none⟩) t476.length co6) y479)∧Xa (Kd.R Kd.bool 4 w' w.heap.size (fun k_=>some k_≠((.slice (some ⟨go6,0,none⟩) t476.length co6):Value).ownBlock) v481 x5_1)∧Xa (Below w.heap.size w w'))
   case atStart=>exact ⟨(t480),(0),(by first|rfl|(simp;done)|(simp [*];done)),H',⟨Nat.le_refl _⟩,⟨Kd.ra_ (Kd.Xn HO478.out (fun _ hk=>hk.2))⟩,⟨Kd.ra_ (Kd.Xn HO482.out (fun _ hk=>hk.2))⟩,⟨bl_ HB⟩⟩
   case round=>
    clear H'
    try clear c2
    try clear p2
    try clear c3
    try clear c4
    try clear c4b0
    try clear c5
    try clear c5b0
    try clear p6
    try clear q6
    try clear hx6
    try clear hf6
    try clear hx6_0
    try clear p6
    try clear q6
    obtain ⟨x5_1,x20_1,rfl,HA,HK1,HO_3,HO_5,HB⟩:=hrel;have hl3_1:=(Kd.R_reads' HO_3.out).1;rw [hl3_1] at HO_3
    (try simp only [hl3_1])
    (try simp only [hl3_1] at HO_5)
    cases gk with
    |zero=>exact absurd HA.out (by simp [Yt.l0])
    |succ k1=>
     have H:=HA.out;clear HA;simp only [Yt.l0] at H;by_cases c12:x20_1<(l0.length:Int)
     ·rw [if_pos c12] at H;have c12b0:decide (x20_1<(l0.length:Int))=true:=decide_eq_true c12;clear c12;by_cases c13:0≤x20_1
      ·rw [if_pos c13] at H;have c13b0:decide (0≤x20_1)=true:=decide_eq_true c13;clear c13;by_cases c14:x20_1<(l0.length:Int)
       ·rw [if_pos c14] at H;have c14b0:decide (x20_1<(l0.length:Int))=true:=decide_eq_true c14;clear c14;have HC15:=Xa.mk H;clear H;have p483:0≤(x20_1:Int):=of_decide_eq_true (by first|(with_reducible assumption)|assumption);have q483:x20_1<(l0.length:Int):=of_decide_eq_true (by first|(with_reducible assumption)|assumption);obtain ⟨ad483,e483,hx483_0,hx483_1,hx483_2,hx483_3⟩:=Zt HR0.out x20_1 p483 q483;cases e483
        replace hx483_0:=(HB.out.cell (World.block_lt_of_cell? w _ hx483_0)).trans hx483_0;replace hx483_1:=(HB.out.cell (World.block_lt_of_cell? w _ hx483_1)).trans hx483_1;replace hx483_2:=(HB.out.cell (World.block_lt_of_cell? w _ hx483_2)).trans hx483_2;replace hx483_3:=(HB.out.cell (World.block_lt_of_cell? w _ hx483_3)).trans hx483_3;replace p483:=eq_true p483;replace q483:=eq_true q483
        go_upto_region 7 with (first|((with_reducible refine Xx (N:=7) rfl ?_);refine Yw ?hg (N:=7) ?hd (cs:=#[.int .i64 0,.int .i64 0,.int .i64 0,.int .i64 0]) (t:=31) ?hr ?_;(case hd=>rfl);(case hg=>rfl);(case hr=>first|(go_simp;done)|(go_simp;rfl));intro gb484 hg w16 hbox hb;have n0_:=Xa.mk (Kd.Zl (Kd.ra_ (HO_3.out)) hb);have n1_:=Xa.mk (Kd.Zl (Kd.ra_ (HO_5.out)) hb);have n2_:=Xa.mk (Xd (bl_ HB) hb);have n3_:=Xa.mk (hbox);have n4_:=Xa.mk ((by rw [hg];exact (Xc (bl_ HB)):w.heap.size≤gb484));have n5_:=Xa.mk ((by rw [hg];exact (Xc (bl_ HB)):w.heap.size≤gb484));clear HO_3;clear HO_5;clear HB;have HO_3:=n0_;have HO_5:=n1_;have HB:=n2_;have BK484:=n3_;have GW484:=n4_;have GE484:=n5_;clear n0_ n1_ n2_ n3_ n4_ n5_;clear hb hbox hg;obtain ⟨hcz17_0,hcz17_1,hcz17_2,hcz17_3⟩:=Uu BK484.out;obtain ⟨hfz17_0,hfz17_1,hfz17_2,hfz17_3⟩:=Uy BK484.out))
        (try simp only [Act.put,List.setIfInBounds_toArray,List.set_cons_zero,List.set_cons_succ])
        go_cut [33] (fun v33 wc=>∃ (kq:Nat) (x33_14:Bool),v33=.bool x33_14∧Xa (Yt.j1 kq y479 x5_1 x20_1 l0 (l0.length:Int) x20_1 x33_14 ((Xb l0 x20_1).f0) ((Xb l0 x20_1).f1) ((Xb l0 x20_1).f2) ((Xb l0 x20_1).f3)=some r)∧Xa (kq≤k1)∧Xa (Kd.R Kd.bool 4 wc w.heap.size (fun k_=>some k_≠(v481:Value).ownBlock) (.slice (some ⟨go6,0,none⟩) y479.length co6) y479)∧Xa (Kd.R Kd.bool 4 wc w.heap.size (fun k_=>some k_≠((.slice (some ⟨go6,0,none⟩) y479.length co6):Value).ownBlock) v481 x5_1)∧Xa (wc.heap[gb484]?=some (.cells #[.int .i64 ((Xb l0 x20_1).f0),.int .i64 ((Xb l0 x20_1).f1),.int .i64 ((Xb l0 x20_1).f2),.int .i64 ((Xb l0 x20_1).f3)] 31 (0,0)))∧Xa (Below w.heap.size w wc))
        case first=>
         have H:=HC15.out;clear HC15;by_cases c18:((Xb l0 x20_1).f0)=7
         ·rw [if_pos c18] at H;have c18b0:(((Xb l0 x20_1).f0) == 7)=true:=beq_iff_eq.mpr c18;have c18b1:(((Xb l0 x20_1).f0) != 7)=false:=bne_eq_false_iff_eq.mpr c18;clear c18
          (first|rw [c18b0]|(simp only [Xy,Xz];rw [c18b0])|skip)
          have H':=Xa.mk H;clear H;obtain ⟨hcz19_0,hcz19_1,hcz19_2,hcz19_3⟩:=Uu BK484.out;obtain ⟨hfz19_0,hfz19_1,hfz19_2,hfz19_3⟩:=Uy BK484.out;go_wp2
          go_meet
          case rel=>exact ⟨_,(decide (((Xb l0 x20_1).f3)≤x20_1)),(by first|rfl|(simp;done)|(simp [*];done)),H',⟨by have:=HK1.out;first|omega|exact Nat.le_refl _⟩,⟨by (try simp only [hl3_1]);(with_reducible repeat (first|apply Kd.Ud|apply Kd.Ua|apply Kd.Va));exact Kd.Xn (Kd.Um (p:=⟨gb484,3,none⟩) (Kd.Um (p:=⟨gb484,2,none⟩) (Kd.Um (p:=⟨gb484,1,none⟩) (Kd.Um (p:=⟨gb484,0,none⟩) (Kd.R_types HO_3.out BK484.out (by decide)) (fun _ hk=>hk.2) (.int .i64 ((Xb l0 x20_1).f0))) (fun _ hk=>hk.2) (.int .i64 ((Xb l0 x20_1).f1))) (fun _ hk=>hk.2) (.int .i64 ((Xb l0 x20_1).f2))) (fun _ hk=>hk.2) (.int .i64 ((Xb l0 x20_1).f3))) (fun _ hk=>hk.1)⟩,⟨by (try simp only [hl3_1]);(with_reducible repeat (first|apply Kd.Ud|apply Kd.Ua|apply Kd.Va));exact Kd.Xn (Kd.Um (p:=⟨gb484,3,none⟩) (Kd.Um (p:=⟨gb484,2,none⟩) (Kd.Um (p:=⟨gb484,1,none⟩) (Kd.Um (p:=⟨gb484,0,none⟩) (Kd.R_types HO_5.out BK484.out (by decide)) (fun _ hk=>hk.2) (.int .i64 ((Xb l0 x20_1).f0))) (fun _ hk=>hk.2) (.int .i64 ((Xb l0 x20_1).f1))) (fun _ hk=>hk.2) (.int .i64 ((Xb l0 x20_1).f2))) (fun _ hk=>hk.2) (.int .i64 ((Xb l0 x20_1).f3))) (fun _ hk=>hk.1)⟩,⟨by (try simp only [hl3_1]);(with_reducible repeat (first|refine Xj ?_ _|refine Xo ?_|refine Xi ?_ _));refine Ye (cs:=#[.int .i64 ((Xb l0 x20_1).f0),.int .i64 ((Xb l0 x20_1).f1),.int .i64 ((Xb l0 x20_1).f2),.int .i64 0]) ?_ 3 _ rfl;(with_reducible repeat (first|refine Xj ?_ _|refine Xo ?_|refine Xi ?_ _));refine Ye (cs:=#[.int .i64 ((Xb l0 x20_1).f0),.int .i64 ((Xb l0 x20_1).f1),.int .i64 0,.int .i64 0]) ?_ 2 _ rfl;(with_reducible repeat (first|refine Xj ?_ _|refine Xo ?_|refine Xi ?_ _));refine Ye (cs:=#[.int .i64 ((Xb l0 x20_1).f0),.int .i64 0,.int .i64 0,.int .i64 0]) ?_ 1 _ rfl;(with_reducible repeat (first|refine Xj ?_ _|refine Xo ?_|refine Xi ?_ _));refine Ye (cs:=#[.int .i64 0,.int .i64 0,.int .i64 0,.int .i64 0]) ?_ 0 _ rfl;(with_reducible repeat (first|refine Xj ?_ _|refine Xo ?_|refine Xi ?_ _));exact BK484.out⟩,⟨bl_ HB⟩⟩
         ·rw [if_neg c18] at H;have c18b0:(((Xb l0 x20_1).f0) == 7)=false:=beq_eq_false_iff_ne.mpr c18;have c18b1:(((Xb l0 x20_1).f0) != 7)=true:=bne_iff_ne.mpr c18
          (first|rw [c18b0]|(simp only [Xy,Xz];rw [c18b0])|skip)
          have H':=Xa.mk H;clear H;obtain ⟨hcz20_0,hcz20_1,hcz20_2,hcz20_3⟩:=Uu BK484.out;obtain ⟨hfz20_0,hfz20_1,hfz20_2,hfz20_3⟩:=Uy BK484.out;go_wp2
          go_meet
          case rel=>exact ⟨_,(true),(by first|rfl|(simp;done)|(simp [*];done)),H',⟨by have:=HK1.out;first|omega|exact Nat.le_refl _⟩,⟨by (try simp only [hl3_1]);(with_reducible repeat (first|apply Kd.Ud|apply Kd.Ua|apply Kd.Va));exact Kd.Xn (Kd.Um (p:=⟨gb484,3,none⟩) (Kd.Um (p:=⟨gb484,2,none⟩) (Kd.Um (p:=⟨gb484,1,none⟩) (Kd.Um (p:=⟨gb484,0,none⟩) (Kd.R_types HO_3.out BK484.out (by decide)) (fun _ hk=>hk.2) (.int .i64 ((Xb l0 x20_1).f0))) (fun _ hk=>hk.2) (.int .i64 ((Xb l0 x20_1).f1))) (fun _ hk=>hk.2) (.int .i64 ((Xb l0 x20_1).f2))) (fun _ hk=>hk.2) (.int .i64 ((Xb l0 x20_1).f3))) (fun _ hk=>hk.1)⟩,⟨by (try simp only [hl3_1]);(with_reducible repeat (first|apply Kd.Ud|apply Kd.Ua|apply Kd.Va));exact Kd.Xn (Kd.Um (p:=⟨gb484,3,none⟩) (Kd.Um (p:=⟨gb484,2,none⟩) (Kd.Um (p:=⟨gb484,1,none⟩) (Kd.Um (p:=⟨gb484,0,none⟩) (Kd.R_types HO_5.out BK484.out (by decide)) (fun _ hk=>hk.2) (.int .i64 ((Xb l0 x20_1).f0))) (fun _ hk=>hk.2) (.int .i64 ((Xb l0 x20_1).f1))) (fun _ hk=>hk.2) (.int .i64 ((Xb l0 x20_1).f2))) (fun _ hk=>hk.2) (.int .i64 ((Xb l0 x20_1).f3))) (fun _ hk=>hk.1)⟩,⟨by (try simp only [hl3_1]);(with_reducible repeat (first|refine Xj ?_ _|refine Xo ?_|refine Xi ?_ _));refine Ye (cs:=#[.int .i64 ((Xb l0 x20_1).f0),.int .i64 ((Xb l0 x20_1).f1),.int .i64 ((Xb l0 x20_1).f2),.int .i64 0]) ?_ 3 _ rfl;(with_reducible repeat (first|refine Xj ?_ _|refine Xo ?_|refine Xi ?_ _));refine Ye (cs:=#[.int .i64 ((Xb l0 x20_1).f0),.int .i64 ((Xb l0 x20_1).f1),.int .i64 0,.int .i64 0]) ?_ 2 _ rfl;(with_reducible repeat (first|refine Xj ?_ _|refine Xo ?_|refine Xi ?_ _));refine Ye (cs:=#[.int .i64 ((Xb l0 x20_1).f0),.int .i64 0,.int .i64 0,.int .i64 0]) ?_ 1 _ rfl;(with_reducible repeat (first|refine Xj ?_ _|refine Xo ?_|refine Xi ?_ _));refine Ye (cs:=#[.int .i64 0,.int .i64 0,.int .i64 0,.int .i64 0]) ?_ 0 _ rfl;(with_reducible repeat (first|refine Xj ?_ _|refine Xo ?_|refine Xi ?_ _));exact BK484.out⟩,⟨bl_ HB⟩⟩
        case rest=>
         clear HC15
         try clear c1
         try clear c2
         try clear p2
         try clear c3
         try clear c4
         try clear c4b0
         try clear p4
         try clear q4
         try clear hx4
         try clear c5
         try clear c5b0
         try clear p6
         try clear q6
         try clear hx6
         try clear hf6
         try clear c12
         try clear c12b0
         try clear c13
         try clear c13b0
         try clear c14
         try clear c14b0
         try clear c18
         try clear c18b0
         try clear c18b1
         try clear hcz17_0
         try clear hcz17_1
         try clear hcz17_2
         try clear hcz17_3
         try clear hcz19_0
         try clear hcz19_1
         try clear hcz19_2
         try clear hcz19_3
         try clear hcz20_0
         try clear hcz20_1
         try clear hcz20_2
         try clear hcz20_3
         try clear hfz17_0
         try clear hfz17_1
         try clear hfz17_2
         try clear hfz17_3
         try clear hfz19_0
         try clear hfz19_1
         try clear hfz19_2
         try clear hfz19_3
         try clear hfz20_0
         try clear hfz20_1
         try clear hfz20_2
         try clear hfz20_3
         try clear hx483_0
         try clear hx483_1
         try clear hx483_2
         try clear hx483_3
         try clear hx6_0
         try clear p2
         try clear p483
         try clear p6
         try clear q483
         try clear q6
         obtain ⟨kq,x33_14,rfl,HA,HJ14,HO_3,HO_5,BK484,HB⟩:=hcut
         cases kq with
         |zero=>exact absurd HA.out (by simp [Yt.j1])
         |succ kj14=>
          have H:=HA.out;clear HA;simp only [Yt.j1] at H;by_cases c21:x33_14=true
          ·subst c21
           have H1:(Yt.l0 kj14 y479 x5_1 l0 (l0.length:Int) (wrap64 (x20_1+1)))=some r:=by rw [if_pos rfl] at H;exact H
           clear H;have H:=H1;clear H1;have H':=Xa.mk H;clear H;go_wp2
           (try simp only [← hl3_1])
           go_roundg kj14
           case measure=>have:=HK1.out;have:=HJ14.out;omega
           case rel=>exact ⟨(x5_1),(wrap64 (x20_1+1)),(by first|rfl|(simp;done)|(simp [*];done)),H',⟨by have:=HK1.out;have:=HJ14.out;omega⟩,⟨by (try simp only [hl3_1]);(with_reducible repeat (first|apply Kd.Ud|apply Kd.Ua|apply Kd.Va));exact HO_3.out⟩,⟨by (try simp only [hl3_1]);(with_reducible repeat (first|apply Kd.Ud|apply Kd.Ua|apply Kd.Va));exact HO_5.out⟩,⟨bl_ HB⟩⟩
          ·replace c21:=Bool.eq_false_iff.mpr c21;subst c21
           have H1:(if 0≤(wrap64 (x20_1+1)) then (if (wrap64 (x20_1+1))≤((Xb l0 x20_1).f3) then (if ((Xb l0 x20_1).f3)≤(y479.length:Int) then ((Zk.f kj14 ((y479.take (((Xb l0 x20_1).f3):Int).toNat).drop ((wrap64 (x20_1+1)):Int).toNat) true).bind fun t489=>(if t489=true then (Yt.l0 kj14 y479 x5_1 l0 (l0.length:Int) (wrap64 (x20_1+1))) else (if 0≤((Xb l0 x20_1).f3) then (if ((Xb l0 x20_1).f3)<(y479.length:Int) then (if rdOf false y479 ((Xb l0 x20_1).f3)=true then (if 0≤x20_1 then (if x20_1<(x5_1.length:Int) then (Yt.l0 kj14 y479 (x5_1.set (x20_1:Int).toNat false) l0 (l0.length:Int) (wrap64 (x20_1+1))) else (none)) else (none)) else (Yt.l0 kj14 y479 x5_1 l0 (l0.length:Int) (wrap64 (x20_1+1)))) else (none)) else (none)))) else (none)) else (none)) else (none))=some r:=by rw [if_neg (show ¬ (false=true) by decide)] at H;exact H
           clear H;have H:=H1;clear H1;obtain ⟨ji22,hji22⟩:∃ j_:Int,(wrap64 (x20_1+1))=j_:=⟨_,rfl⟩
           replace H:(if 0≤(ji22) then (if (ji22)≤((Xb l0 x20_1).f3) then (if ((Xb l0 x20_1).f3)≤(y479.length:Int) then ((Zk.f kj14 ((y479.take (((Xb l0 x20_1).f3):Int).toNat).drop ((ji22):Int).toNat) true).bind fun t489=>(if t489=true then (Yt.l0 kj14 y479 x5_1 l0 (l0.length:Int) ji22) else (if 0≤((Xb l0 x20_1).f3) then (if ((Xb l0 x20_1).f3)<(y479.length:Int) then (if rdOf false y479 ((Xb l0 x20_1).f3)=true then (if 0≤x20_1 then (if x20_1<(x5_1.length:Int) then (Yt.l0 kj14 y479 (x5_1.set (x20_1:Int).toNat false) l0 (l0.length:Int) ji22) else (none)) else (none)) else (Yt.l0 kj14 y479 x5_1 l0 (l0.length:Int) ji22)) else (none)) else (none)))) else (none)) else (none)) else (none))=some r:=by first|(rw [hji22] at H;exact H)|(simp only [hji22] at H ⊢;exact H)
           have hji22w:(IntKind.i64.wrap (x20_1+1))=ji22:=(Xy _).trans hji22;by_cases c23:0≤(ji22)
           ·rw [if_pos c23] at H;have c23b0:=eq_true c23;have c23b1:decide (0≤(ji22))=true:=decide_eq_true c23;clear c23;by_cases c24:(ji22)≤((Xb l0 x20_1).f3)
            ·rw [if_pos c24] at H;have c24b0:=eq_true c24;have c24b1:decide ((ji22)≤((Xb l0 x20_1).f3))=true:=decide_eq_true c24;clear c24;by_cases c25:((Xb l0 x20_1).f3)≤(y479.length:Int)
             ·rw [if_pos c25] at H;have c25b0:=eq_true c25;have c25b1:decide (((Xb l0 x20_1).f3)≤(y479.length:Int))=true:=decide_eq_true c25;clear c25;obtain ⟨y485,hy485⟩:∃ y_:List Bool,y_=((y479.take (((Xb l0 x20_1).f3):Int).toNat).drop ((ji22):Int).toNat):=⟨_,rfl⟩
              replace H:((Zk.f kj14 y485 true).bind fun t489=>(if t489=true then (Yt.l0 kj14 y479 x5_1 l0 (l0.length:Int) ji22) else (if 0≤((Xb l0 x20_1).f3) then (if ((Xb l0 x20_1).f3)<(y479.length:Int) then (if rdOf false y479 ((Xb l0 x20_1).f3)=true then (if 0≤x20_1 then (if x20_1<(x5_1.length:Int) then (Yt.l0 kj14 y479 (x5_1.set (x20_1:Int).toNat false) l0 (l0.length:Int) ji22) else (none)) else (none)) else (Yt.l0 kj14 y479 x5_1 l0 (l0.length:Int) ji22)) else (none)) else (none))))=some r:=by subst hy485;first|with_reducible exact H|(have z:=(Option.bind_some _ _).symm.trans H;with_reducible exact z)|exact H
              have Ny485:=Xa.mk hy485;clear hy485;replace H:=Option.bind_eq_some_iff.mp H;obtain ⟨t489,A260,H⟩:=H;replace H:(if t489=true then (Yt.l0 kj14 y479 x5_1 l0 (l0.length:Int) ji22) else (if 0≤((Xb l0 x20_1).f3) then (if ((Xb l0 x20_1).f3)<(y479.length:Int) then (if rdOf false y479 ((Xb l0 x20_1).f3)=true then (if 0≤x20_1 then (if x20_1<(x5_1.length:Int) then (Yt.l0 kj14 y479 (x5_1.set (x20_1:Int).toNat false) l0 (l0.length:Int) ji22) else (none)) else (none)) else (Yt.l0 kj14 y479 x5_1 l0 (l0.length:Int) ji22)) else (none)) else (none)))=some r:=H;have A26:=Xa.mk A260;clear A260;by_cases c27:t489=true
              ·subst c27
               have H1:(Yt.l0 kj14 y479 x5_1 l0 (l0.length:Int) ji22)=some r:=by rw [if_pos rfl] at H;exact H
               clear H;have H:=H1;clear H1;have H':=Xa.mk H;clear H;obtain ⟨hcz28_0,hcz28_1,hcz28_2,hcz28_3⟩:=Uu BK484.out;obtain ⟨hfz28_0,hfz28_1,hfz28_2,hfz28_3⟩:=Uy BK484.out;have q29:(((Xb l0 x20_1).f3):Int)≤((y479.length:Int):Int):=of_decide_eq_true (by first|(with_reducible assumption)|assumption);obtain ⟨i029,hi029,_,hsz29,_⟩:=info_parts info4;have hroom29:y479.length≤co6:=(Kd.R_reads' HO_3.out).2.1;have hC29:Kd.C Kd.bool _ (some ⟨go6,0,none⟩) y479.length y479:=(Kd.R_reads' HO_3.out).2.2;have ql29:((ji22):Int)≤(((Xb l0 x20_1).f3):Int):=of_decide_eq_true (by first|(with_reducible assumption)|assumption);have q029:(0:Int)≤((ji22):Int):=of_decide_eq_true (by first|(with_reducible assumption)|assumption);have hcut29:=cut_mid (P:=Try.prog) 28 4 .i64 .i64 Try.underlying28 hi029 1 hsz29 (some ⟨go6,0,none⟩) y479.length co6 (ji22) ((Xb l0 x20_1).f3) q029 ql29 q29 hroom29;have hr29:=Kd.C_mid (lo:=((ji22):Int).toNat) (hi:=(((Xb l0 x20_1).f3):Int).toNat) (c:=co6) hC29 (by omega) (by omega) hroom29;obtain ⟨A29,hA29⟩:∃ A1,A1=(if co6=((ji22):Int).toNat then (some ⟨go6,0,none⟩) else ((some ⟨go6,0,none⟩):Option Addr).map (·.add (((ji22):Int).toNat * 1))):=⟨_,rfl⟩;obtain ⟨c29,hc29⟩:∃ c1,c1=co6 - ((ji22):Int).toNat:=⟨_,rfl⟩;have hy29:y485.length=(((Xb l0 x20_1).f3):Int).toNat - ((ji22):Int).toNat:=(by rw [Ny485.out,List.length_drop,List.length_take] <;> omega);rw [show ((y479).take (((Xb l0 x20_1).f3):Int).toNat).drop ((ji22):Int).toNat=y485 from Ny485.out.symm] at hr29;replace hr29:Kd.C Kd.bool _ A29 y485.length y485:=(by rw [hA29];exact hr29);rw [← hy29,← hA29,← hc29] at hcut29;have HR488:=Xa.mk hr29;have HC488:=Xa.mk (show y485.length≤c29 from by rw [hy29,hc29];exact Nat.sub_le_sub_right (Nat.le_trans (by omega) hroom29) _);clear hr29 hC29 hroom29 hi029 hsz29 hc29;have KY29:=Xa.mk hy29;have KA29:=Xa.mk hA29;clear hy29 hA29;have KL29:=Xa.mk (show (((Xb l0 x20_1).f3):Int).toNat≤y479.length from by omega);have KM29:=Xa.mk (show ((ji22):Int).toNat≤(((Xb l0 x20_1).f3):Int).toNat from by omega);replace q29:=eq_true q29;go_wp2_with (first|((with_reducible refine Xf (f:=58) rfl ?_);refine Yf (some 40) rfl rfl Try.func58 (by kernel_rfl) rfl #[.slice A29 y485.length c29,.bool true] rfl ga_ ?_;(with_reducible refine (Zk.calls kj14 _ _ y485 true true _ ?side1 ?side2 A26.out).mono ?_);(case side1=>repeat (first|exact (by repeat (first|(with_reducible exact HR488.out)|(with_reducible refine Kd.Xq ?_ _)|(with_reducible refine Kd.Xr ?_ _)|(with_reducible refine Kd.Yc ?_)|exact HR488.out))|(with_reducible refine Kd.Xq ?_ _)|(with_reducible refine Kd.Xr ?_ _)|(with_reducible refine Kd.Yc ?_)));(case side2=>exact HC488.out);rintro e w' ⟨rfl,⟨nd,rfl⟩⟩;refine ⟨_,rfl,?_⟩))
               (try simp only [← hl3_1])
               go_roundg kj14
               case measure=>have:=HK1.out;have:=HJ14.out;omega
               case rel=>exact ⟨(x5_1),(ji22),(by first|rfl|(simp;done)|(simp only [← hji22] <;> (first|rfl|simp))|(simp [*];done)),H',⟨by have:=HK1.out;have:=HJ14.out;omega⟩,⟨by (try simp only [hl3_1]);(with_reducible repeat (first|apply Kd.Ud|apply Kd.Ua|apply Kd.Va));exact HO_3.out⟩,⟨by (try simp only [hl3_1]);(with_reducible repeat (first|apply Kd.Ud|apply Kd.Ua|apply Kd.Va));exact HO_5.out⟩,⟨bl_ HB⟩⟩
              ·replace c27:=Bool.eq_false_iff.mpr c27;subst c27
               have H1:(if 0≤((Xb l0 x20_1).f3) then (if ((Xb l0 x20_1).f3)<(y479.length:Int) then (if rdOf false y479 ((Xb l0 x20_1).f3)=true then (if 0≤x20_1 then (if x20_1<(x5_1.length:Int) then (Yt.l0 kj14 y479 (x5_1.set (x20_1:Int).toNat false) l0 (l0.length:Int) ji22) else (none)) else (none)) else (Yt.l0 kj14 y479 x5_1 l0 (l0.length:Int) ji22)) else (none)) else (none))=some r:=by rw [if_neg (show ¬ (false=true) by decide)] at H;exact H
               clear H;have H:=H1;clear H1;by_cases c30:0≤((Xb l0 x20_1).f3)
               ·rw [if_pos c30] at H;have c30b0:decide (0≤((Xb l0 x20_1).f3))=true:=decide_eq_true c30;clear c30;by_cases c31:((Xb l0 x20_1).f3)<(y479.length:Int)
                ·rw [if_pos c31] at H;have c31b0:decide (((Xb l0 x20_1).f3)<(y479.length:Int))=true:=decide_eq_true c31;clear c31;obtain ⟨bq32,hbq32⟩:∃ b_:Bool,b_=(rdOf false y479 ((Xb l0 x20_1).f3)):=⟨_,rfl⟩
                 replace H:(if bq32=true then (if 0≤x20_1 then (if x20_1<(x5_1.length:Int) then (Yt.l0 kj14 y479 (x5_1.set (x20_1:Int).toNat false) l0 (l0.length:Int) ji22) else (none)) else (none)) else (Yt.l0 kj14 y479 x5_1 l0 (l0.length:Int) ji22))=some r:=by rw [← hbq32] at H;exact H
                 have Nbq32:=Xa.mk hbq32;clear hbq32;by_cases c33:bq32=true
                 ·subst c33
                  have H1:(if 0≤x20_1 then (if x20_1<(x5_1.length:Int) then (Yt.l0 kj14 y479 (x5_1.set (x20_1:Int).toNat false) l0 (l0.length:Int) ji22) else (none)) else (none))=some r:=by rw [if_pos rfl] at H;exact H
                  clear H;have H:=H1;clear H1;by_cases c34:0≤x20_1
                  ·rw [if_pos c34] at H;have c34b0:decide (0≤x20_1)=true:=decide_eq_true c34;clear c34;by_cases c35:x20_1<(x5_1.length:Int)
                   ·rw [if_pos c35] at H;have c35b0:decide (x20_1<(x5_1.length:Int))=true:=decide_eq_true c35;clear c35;obtain ⟨y491,hy491⟩:∃ y_:List Bool,y_=(x5_1.set (x20_1:Int).toNat false):=⟨_,rfl⟩
                    replace H:(Yt.l0 kj14 y479 y491 l0 (l0.length:Int) ji22)=some r:=by subst hy491;first|with_reducible exact H|(have z:=(Option.bind_some _ _).symm.trans H;with_reducible exact z)|exact H
                    have Ny491:=Xa.mk hy491;clear hy491;have H':=Xa.mk H;clear H;obtain ⟨hcz37_0,hcz37_1,hcz37_2,hcz37_3⟩:=Uu BK484.out;obtain ⟨hfz37_0,hfz37_1,hfz37_2,hfz37_3⟩:=Uy BK484.out;have q38:(((Xb l0 x20_1).f3):Int)≤((y479.length:Int):Int):=of_decide_eq_true (by first|(with_reducible assumption)|assumption);obtain ⟨i038,hi038,_,hsz38,_⟩:=info_parts info4;have hroom38:y479.length≤co6:=(Kd.R_reads' HO_3.out).2.1;have hC38:Kd.C Kd.bool _ (some ⟨go6,0,none⟩) y479.length y479:=(Kd.R_reads' HO_3.out).2.2;have ql38:((ji22):Int)≤(((Xb l0 x20_1).f3):Int):=of_decide_eq_true (by first|(with_reducible assumption)|assumption);have q038:(0:Int)≤((ji22):Int):=of_decide_eq_true (by first|(with_reducible assumption)|assumption);have hcut38:=cut_mid (P:=Try.prog) 28 4 .i64 .i64 Try.underlying28 hi038 1 hsz38 (some ⟨go6,0,none⟩) y479.length co6 (ji22) ((Xb l0 x20_1).f3) q038 ql38 q38 hroom38;have hr38:=Kd.C_mid (lo:=((ji22):Int).toNat) (hi:=(((Xb l0 x20_1).f3):Int).toNat) (c:=co6) hC38 (by omega) (by omega) hroom38;obtain ⟨A38,hA38⟩:∃ A1,A1=(if co6=((ji22):Int).toNat then (some ⟨go6,0,none⟩) else ((some ⟨go6,0,none⟩):Option Addr).map (·.add (((ji22):Int).toNat * 1))):=⟨_,rfl⟩;obtain ⟨c38,hc38⟩:∃ c1,c1=co6 - ((ji22):Int).toNat:=⟨_,rfl⟩;have hy38:y485.length=(((Xb l0 x20_1).f3):Int).toNat - ((ji22):Int).toNat:=(by rw [Ny485.out,List.length_drop,List.length_take] <;> omega);rw [show ((y479).take (((Xb l0 x20_1).f3):Int).toNat).drop ((ji22):Int).toNat=y485 from Ny485.out.symm] at hr38;replace hr38:Kd.C Kd.bool _ A38 y485.length y485:=(by rw [hA38];exact hr38);rw [← hy38,← hA38,← hc38] at hcut38;have HR488:=Xa.mk hr38;have HC488:=Xa.mk (show y485.length≤c38 from by rw [hy38,hc38];exact Nat.sub_le_sub_right (Nat.le_trans (by omega) hroom38) _);clear hr38 hC38 hroom38 hi038 hsz38 hc38;have KY38:=Xa.mk hy38;have KA38:=Xa.mk hA38;clear hy38 hA38;have KL38:=Xa.mk (show (((Xb l0 x20_1).f3):Int).toNat≤y479.length from by omega);have KM38:=Xa.mk (show ((ji22):Int).toNat≤(((Xb l0 x20_1).f3):Int).toNat from by omega);replace q38:=eq_true q38;go_wp2_with (first|((with_reducible refine Xf (f:=58) rfl ?_);refine Yf (some 40) rfl rfl Try.func58 (by kernel_rfl) rfl #[.slice A38 y485.length c38,.bool true] rfl ga_ ?_;(with_reducible refine (Zk.calls kj14 _ _ y485 true false _ ?side1 ?side2 A26.out).mono ?_);(case side1=>repeat (first|exact (by repeat (first|(with_reducible exact HR488.out)|(with_reducible refine Kd.Xq ?_ _)|(with_reducible refine Kd.Xr ?_ _)|(with_reducible refine Kd.Yc ?_)|exact HR488.out))|(with_reducible refine Kd.Xq ?_ _)|(with_reducible refine Kd.Xr ?_ _)|(with_reducible refine Kd.Yc ?_)));(case side2=>exact HC488.out);rintro e w' ⟨rfl,⟨nd,rfl⟩⟩;refine ⟨_,rfl,?_⟩;(try (rw [drewN_self wc];generalize hq_:World.drewN wc _=wc;have n0_:Xa (Kd.R Kd.bool 4 wc w.heap.size (fun k_=>some k_≠(v481:Value).ownBlock) (.slice (some ⟨go6,0,none⟩) y479.length co6) y479):=⟨by rw [← hq_];exact (Kd.ra_ (HO_3.out))⟩;have n1_:Xa (Kd.R Kd.bool 4 wc w.heap.size (fun k_=>some k_≠(.slice (some ⟨go6,0,none⟩) y479.length co6:Value).ownBlock) v481 x5_1):=⟨by rw [← hq_];exact (Kd.ra_ (HO_5.out))⟩;have n2_:Xa (wc.heap[gb484]?=some (.cells #[.int .i64 ((Xb l0 x20_1).f0),.int .i64 ((Xb l0 x20_1).f1),.int .i64 ((Xb l0 x20_1).f2),.int .i64 ((Xb l0 x20_1).f3)] 31 (0,0))):=⟨by rw [← hq_];exact (ba_ BK484)⟩;have n3_:Xa (Below w.heap.size w wc):=⟨by rw [← hq_];exact (bl_ HB)⟩;have n4_:Xa (Kd.C Kd.bool wc A38 y485.length y485):=⟨by rw [← hq_];exact (by repeat (first|(with_reducible exact HR488.out)|(with_reducible refine Kd.Xq ?_ _)|(with_reducible refine Kd.Xr ?_ _)|(with_reducible refine Kd.Yc ?_)|exact HR488.out))⟩;obtain ⟨hbz_gb484_0,hbz_gb484_1,hbz_gb484_2,hbz_gb484_3⟩:=Uu n2_.out;clear HO_3 HO_5 BK484 HB HR488 hq_;have HO_3:=n0_;have HO_5:=n1_;have BK484:=n2_;have HB:=n3_;have HR488:=n4_;clear n0_ n1_ n2_ n3_ n4_));have p490:0≤(((Xb l0 x20_1).f3):Int):=of_decide_eq_true (by first|(with_reducible assumption)|assumption);have q490:((Xb l0 x20_1).f3)<(y479.length:Int):=of_decide_eq_true (by first|(with_reducible assumption)|assumption);obtain ⟨ad490,e490,hx490_0⟩:=Kd.at_bool (Kd.R_reads' HO_3.out).2.2 ((Xb l0 x20_1).f3) p490 q490;(try rw [← Nbq32.out] at hx490_0);obtain rfl:(⟨go6,0,none⟩:Addr)=ad490:=(by injection e490);(first|simp only [add_plain] at hx490_0|simp only [add_at] at hx490_0|simp only [Addr.add,Nat.zero_add] at hx490_0|skip);replace p490:=eq_true p490;replace q490:=eq_true q490;have p36:0≤(x20_1:Int):=of_decide_eq_true (by first|(with_reducible assumption)|assumption);have q36:(x20_1:Int)<((x5_1.length:Int):Int):=of_decide_eq_true (by first|(with_reducible assumption)|assumption);obtain ⟨go36,co36,eo36,gb36,gl36,cl36,HG36⟩:=Kd.R_form HO_5.out (by omega);(first|cases eo36|(injection eo36 with ea_ en_ ec_;(first|subst ea_|(injection ea_ with ea_;subst ea_));subst ec_;clear en_));have GB36:=Xa.mk gb36;have GG36:=Xa.mk HG36;clear gb36 gl36 HG36;obtain ⟨hx36_0,hf36_0⟩:=Kd.R_celln false HO_5.out (x20_1:Int) p36 q36;replace p36:=eq_true p36;replace q36:=eq_true q36;obtain ⟨hy39_,hz39_⟩:=Kd.R_celln false HO_5.out (x20_1:Int) (of_decide_eq_true (by first|(with_reducible assumption)|assumption)) (of_decide_eq_true (by first|(with_reducible assumption)|assumption));have HP39:=Kd.R_putg HO_5.out (x20_1:Int) false)|((with_reducible refine gate_store (t:=4) (p:=51) rfl ?_);refine Wh (t:=4) (p:=51) (v:=?vo_w40) (w1:=(wc.setCell ⟨go36,(x20_1:Int).toNat,none⟩ (.bool false))) ?hg ?ho ?hn ?hr ?_;(case ho=>rfl);(case hg=>rfl);(case hn=>rfl);(case hr=>first|(go_simp;done)|(go_simp;rfl));intro w40 hw;have hg:wc.grownBy w40 (some go36):=(by rw [hw];exact HP39.2);have hp_:Kd.R Kd.bool 4 w40 w.heap.size (fun k_=>some k_≠(.slice (some ⟨go6,0,none⟩) y479.length co6:Value).ownBlock) (.slice (some ⟨go36,0,none⟩) x5_1.length co36) y491:=(by rw [hw,Ny491.out];exact HP39.1);clear HP39;have n0_:=Xa.mk (Kd.Yz (v:=(.slice (some ⟨go36,0,none⟩) x5_1.length co36)) (v1:=(.slice (some ⟨go36,0,none⟩) x5_1.length co36)) (ok:=(fun _=>True)) (Kd.ra_ (Kd.Xn HO_3.out (fun _ hk=>⟨trivial,hk⟩))) hg (.inl rfl));have n1_:=Xa.mk (hp_);have n2_:=Xa.mk (Vm (g:=gb484) (o:=.cells #[.int .i64 ((Xb l0 x20_1).f0),.int .i64 ((Xb l0 x20_1).f1),.int .i64 ((Xb l0 x20_1).f2),.int .i64 ((Xb l0 x20_1).f3)] 31 (0,0)) (ba_ BK484) hg (Kd.R_ne HO_5.out BK484.out (by decide)));have n3_:=Xa.mk ((by rw [hw];exact below_set (HB.out) GB36.out:Below w.heap.size w w40));have n4_:=Xa.mk ((show Kd.C Kd.bool w40 A38 y485.length y485 from by rw [Ny485.out,KA38.out];exact Kd.C_mid (lo:=((ji22):Int).toNat) (hi:=(((Xb l0 x20_1).f3):Int).toNat) (c:=co6) ((Kd.R_reads' (Kd.Yz (v:=(.slice (some ⟨go36,0,none⟩) x5_1.length co36)) (v1:=(.slice (some ⟨go36,0,none⟩) x5_1.length co36)) (ok:=(fun _=>True)) (Kd.ra_ (Kd.Xn HO_3.out (fun _ hk=>⟨trivial,hk⟩))) hg (.inl rfl))).2.2) KM38.out KL38.out ((Kd.R_reads' (Kd.Yz (v:=(.slice (some ⟨go36,0,none⟩) x5_1.length co36)) (v1:=(.slice (some ⟨go36,0,none⟩) x5_1.length co36)) (ok:=(fun _=>True)) (Kd.ra_ (Kd.Xn HO_3.out (fun _ hk=>⟨trivial,hk⟩))) hg (.inl rfl))).2.1)));clear HO_3;clear HO_5;clear BK484;clear HB;clear HR488;have HO_3:=n0_;have HO_5:=n1_;have BK484:=n2_;have HB:=n3_;have HR488:=n4_;clear n0_ n1_ n2_ n3_ n4_;clear hg hw hp_))
                    (try simp only [← hl3_1])
                    go_roundg kj14
                    case measure=>have:=HK1.out;have:=HJ14.out;omega
                    case rel=>exact ⟨(y491),(ji22),(by first|rfl|(simp;done)|(simp only [← hji22] <;> (first|rfl|simp))|(simp [*];done)),H',⟨by have:=HK1.out;have:=HJ14.out;omega⟩,⟨by (try simp only [hl3_1]);(with_reducible repeat (first|apply Kd.Ud|apply Kd.Ua|apply Kd.Va));exact Kd.Xn HO_3.out (fun _ hk=>hk.2)⟩,⟨by (try simp only [hl3_1]);(with_reducible repeat (first|apply Kd.Ud|apply Kd.Ua|apply Kd.Va));exact HO_5.out⟩,⟨bl_ HB⟩⟩
                   ·rw [if_neg c35] at H;exact absurd H (by simp)
                  ·rw [if_neg c34] at H;exact absurd H (by simp)
                 ·replace c33:=Bool.eq_false_iff.mpr c33;subst c33
                  have H1:(Yt.l0 kj14 y479 x5_1 l0 (l0.length:Int) ji22)=some r:=by rw [if_neg (show ¬ (false=true) by decide)] at H;exact H
                  clear H;have H:=H1;clear H1;have H':=Xa.mk H;clear H;obtain ⟨hcz41_0,hcz41_1,hcz41_2,hcz41_3⟩:=Uu BK484.out;obtain ⟨hfz41_0,hfz41_1,hfz41_2,hfz41_3⟩:=Uy BK484.out;have q42:(((Xb l0 x20_1).f3):Int)≤((y479.length:Int):Int):=of_decide_eq_true (by first|(with_reducible assumption)|assumption);obtain ⟨i042,hi042,_,hsz42,_⟩:=info_parts info4;have hroom42:y479.length≤co6:=(Kd.R_reads' HO_3.out).2.1;have hC42:Kd.C Kd.bool _ (some ⟨go6,0,none⟩) y479.length y479:=(Kd.R_reads' HO_3.out).2.2;have ql42:((ji22):Int)≤(((Xb l0 x20_1).f3):Int):=of_decide_eq_true (by first|(with_reducible assumption)|assumption);have q042:(0:Int)≤((ji22):Int):=of_decide_eq_true (by first|(with_reducible assumption)|assumption);have hcut42:=cut_mid (P:=Try.prog) 28 4 .i64 .i64 Try.underlying28 hi042 1 hsz42 (some ⟨go6,0,none⟩) y479.length co6 (ji22) ((Xb l0 x20_1).f3) q042 ql42 q42 hroom42;have hr42:=Kd.C_mid (lo:=((ji22):Int).toNat) (hi:=(((Xb l0 x20_1).f3):Int).toNat) (c:=co6) hC42 (by omega) (by omega) hroom42;obtain ⟨A42,hA42⟩:∃ A1,A1=(if co6=((ji22):Int).toNat then (some ⟨go6,0,none⟩) else ((some ⟨go6,0,none⟩):Option Addr).map (·.add (((ji22):Int).toNat * 1))):=⟨_,rfl⟩;obtain ⟨c42,hc42⟩:∃ c1,c1=co6 - ((ji22):Int).toNat:=⟨_,rfl⟩;have hy42:y485.length=(((Xb l0 x20_1).f3):Int).toNat - ((ji22):Int).toNat:=(by rw [Ny485.out,List.length_drop,List.length_take] <;> omega);rw [show ((y479).take (((Xb l0 x20_1).f3):Int).toNat).drop ((ji22):Int).toNat=y485 from Ny485.out.symm] at hr42;replace hr42:Kd.C Kd.bool _ A42 y485.length y485:=(by rw [hA42];exact hr42);rw [← hy42,← hA42,← hc42] at hcut42;have HR488:=Xa.mk hr42;have HC488:=Xa.mk (show y485.length≤c42 from by rw [hy42,hc42];exact Nat.sub_le_sub_right (Nat.le_trans (by omega) hroom42) _);clear hr42 hC42 hroom42 hi042 hsz42 hc42;have KY42:=Xa.mk hy42;have KA42:=Xa.mk hA42;clear hy42 hA42;have KL42:=Xa.mk (show (((Xb l0 x20_1).f3):Int).toNat≤y479.length from by omega);have KM42:=Xa.mk (show ((ji22):Int).toNat≤(((Xb l0 x20_1).f3):Int).toNat from by omega);replace q42:=eq_true q42;go_wp2_with (first|((with_reducible refine Xf (f:=58) rfl ?_);refine Yf (some 40) rfl rfl Try.func58 (by kernel_rfl) rfl #[.slice A42 y485.length c42,.bool true] rfl ga_ ?_;(with_reducible refine (Zk.calls kj14 _ _ y485 true false _ ?side1 ?side2 A26.out).mono ?_);(case side1=>repeat (first|exact (by repeat (first|(with_reducible exact HR488.out)|(with_reducible refine Kd.Xq ?_ _)|(with_reducible refine Kd.Xr ?_ _)|(with_reducible refine Kd.Yc ?_)|exact HR488.out))|(with_reducible refine Kd.Xq ?_ _)|(with_reducible refine Kd.Xr ?_ _)|(with_reducible refine Kd.Yc ?_)));(case side2=>exact HC488.out);rintro e w' ⟨rfl,⟨nd,rfl⟩⟩;refine ⟨_,rfl,?_⟩;have p490:0≤(((Xb l0 x20_1).f3):Int):=of_decide_eq_true (by first|(with_reducible assumption)|assumption);have q490:((Xb l0 x20_1).f3)<(y479.length:Int):=of_decide_eq_true (by first|(with_reducible assumption)|assumption);obtain ⟨ad490,e490,hx490_0⟩:=Kd.at_bool (Kd.R_reads' HO_3.out).2.2 ((Xb l0 x20_1).f3) p490 q490;(try rw [← Nbq32.out] at hx490_0);obtain rfl:(⟨go6,0,none⟩:Addr)=ad490:=(by injection e490);(first|simp only [add_plain] at hx490_0|simp only [add_at] at hx490_0|simp only [Addr.add,Nat.zero_add] at hx490_0|skip);replace p490:=eq_true p490;replace q490:=eq_true q490))
                  (try simp only [← hl3_1])
                  go_roundg kj14
                  case measure=>have:=HK1.out;have:=HJ14.out;omega
                  case rel=>exact ⟨(x5_1),(ji22),(by first|rfl|(simp;done)|(simp only [← hji22] <;> (first|rfl|simp))|(simp [*];done)),H',⟨by have:=HK1.out;have:=HJ14.out;omega⟩,⟨by (try simp only [hl3_1]);(with_reducible repeat (first|apply Kd.Ud|apply Kd.Ua|apply Kd.Va));exact HO_3.out⟩,⟨by (try simp only [hl3_1]);(with_reducible repeat (first|apply Kd.Ud|apply Kd.Ua|apply Kd.Va));exact HO_5.out⟩,⟨bl_ HB⟩⟩
                ·rw [if_neg c31] at H;exact absurd H (by simp)
               ·rw [if_neg c30] at H;exact absurd H (by simp)
             ·rw [if_neg c25] at H;exact absurd H (by simp)
            ·rw [if_neg c24] at H;exact absurd H (by simp)
           ·rw [if_neg c23] at H;exact absurd H (by simp)
       ·rw [if_neg c14] at H;exact absurd H (by simp)
      ·rw [if_neg c13] at H;exact absurd H (by simp)
     ·rw [if_neg c12] at H;have c12b0:decide (x20_1<(l0.length:Int))=false:=decide_eq_false c12;clear c12;obtain rfl:=Option.some.inj H;go_wp2
      go_ret
      exact ⟨_,by first|rfl|(simp [errW_none,errW_some] <;> rfl)|(simp only [← hji3];first|rfl|(simp [errW_none,errW_some] <;> rfl))|(simp [*,errW_none,errW_some] <;> rfl),Kd.ra_ (Kd.Xn HO_5.out (fun _ hk=>trivial)),bl_ HB⟩
  ·rw [if_neg c5] at H;exact absurd H (by simp)
 ·rw [if_neg c4] at H;exact absurd H (by simp)
end Go.Proofs.Ytdkcjecllbdljaa.GSlim
