import Derived.Test.YtjmlpgpkmhjdiaaCFnSlimReach21
import Derived.Test.YtjmlpgpkmhjdiaaCFnSlimReach27
import Derived.Test.YtjmlpgpkmhjdiaaCFnSlimReach39
import Derived.Test.YtjmlpgpkmhjdiaaCFnSlimReach64
namespace Go.Proofs.Ytjmlpgpkmhjdiaa.GSlim
open Go.RowKit Go.Proofs.YtjmlpgpkmhjdiaaW.PrintWords Go.Proofs.YtjmlpgpkmhjdiaaW.PrintLast Go.Proofs.YtjmlpgpkmhjdiaaW.PrintMore
attribute [local go_sem] Zh Zf Zt Zq Zc Zb Zi Zg
set_option linter.unusedVariables false
set_option linter.unusedSimpArgs false
mutual
def Xf.l0:Nat→List (S47)→List Bool→Int→Option (Bool)
 |0,_,_,_=>none
 |k+1,x3,x4,x5=>if x5<(x3.length:Int) then (if 0≤(wrap64 (x5 - 1)) then (if (wrap64 (x5 - 1))<(x4.length:Int) then (if rdOf false x4 (wrap64 (x5 - 1))=true then (if (wrap64 (x5 - 1))<(x3.length:Int) then (if ((Xb x3 (wrap64 (x5 - 1))).f0)=7 then (Xf.j1 k x3 x4 x5 false) else (Xf.j1 k x3 x4 x5 (((Xb x3 (wrap64 (x5 - 1))).f0) != 13))) else (none)) else (Xf.j1 k x3 x4 x5 false)) else (none)) else (none)) else (if 0<(x4.length:Int) then (some (rdOf false x4 0)) else (none))
def Xf.j1:Nat→List (S47)→List Bool→Int→Bool→Option (Bool)
 |0,_,_,_,_=>none
 |k+1,x3,x4,x5,x6=>Xf.l1 k x3 x4 x5 x6 0
def Xf.l1:Nat→List (S47)→List Bool→Int→Bool→Int→Option (Bool)
 |0,_,_,_,_,_=>none
 |k+1,x3,x4,x5,x6,x7=>if x7<(x3.length:Int) then (if x6=true then (Xf.l1 k x3 x4 x5 true (wrap64 (x7+1))) else (if 0≤x7 then (if x7<(x4.length:Int) then (if rdOf false x4 x7=true then (if ((Xb x3 x7).f0)=7 then (Xf.l1 k x3 x4 x5 (((Xb x3 x7).f3) == x5) (wrap64 (x7+1))) else (if ((Xb x3 x7).f0)=6 then (Xf.l1 k x3 x4 x5 (((Xb x3 x7).f3) == x5) (wrap64 (x7+1))) else (Xf.l1 k x3 x4 x5 false (wrap64 (x7+1))))) else (Xf.l1 k x3 x4 x5 false (wrap64 (x7+1)))) else (none)) else (none))) else (if 0≤x5 then (if x5<(x4.length:Int) then (if rdOf false x4 x5=true then (if x6=true then (Xf.l0 k x3 x4 (wrap64 (x5+1))) else (some false)) else (if x6=true then (some false) else (Xf.l0 k x3 x4 (wrap64 (x5+1))))) else (none)) else (none))
end
def Xf.f (k:Nat) (l0:List Int):Option (Bool):=if (l0.length:Int) > 1048576 then (some true) else ((Ud.f k l0).bind fun t790=>((Uq.f k t790).bind fun t793=>((Ug.f k t790).bind fun t796=>((Zn.f k t793 t796).bind fun t799=>(if t799=true then ((Ye.f k t790).bind fun t800=>(if t800=true then (Xf.l0 k t790 t793 1) else (some ((t793.length:Int) == 0)))) else (some false))))))
set_option maxHeartbeats 8000000 in
set_option maxRecDepth 100000 in
theorem Xf.calls (k:Nat) (A0:Option Addr) (c0:Nat) (l0:List Int) (r:Bool) (w:World) (hr0:Kd.C (Kd.int .u8) w A0 l0.length l0) (hc0:l0.length≤c0) (h:Xf.f k l0=some r) :
  Calls Try.prog 12 #[.slice A0 l0.length c0] w fun e w'=>e=.returned (.bool r)∧Below w.heap.size w w':=by
 have HR0:=Xa.mk hr0;have HC0:=Xa.mk hc0;clear hr0 hc0;have HB:=Xa.mk (Below.refl w.heap.size w);have H:(if (l0.length:Int) > 1048576 then (some true) else ((Ud.f k l0).bind fun t790=>((Uq.f k t790).bind fun t793=>((Ug.f k t790).bind fun t796=>((Zn.f k t793 t796).bind fun t799=>(if t799=true then ((Ye.f k t790).bind fun t800=>(if t800=true then (Xf.l0 k t790 t793 1) else (some ((t793.length:Int) == 0)))) else (some false)))))))=some r:=h;clear h;by_cases c2:(l0.length:Int) > 1048576
 ·rw [if_pos c2] at H;have c2b0:decide (1048576<(l0.length:Int))=true:=decide_eq_true c2;have c2b1:decide (1048576<l0.length)=true:=decide_eq_true (by omega);clear c2;obtain rfl:=Option.some.inj H
  go_enter Try.func12,Try.ntmps12
  go_wp2
  go_ret
  exact ⟨rf_,bl_ HB⟩
 ·rw [if_neg c2] at H;have c2b0:decide (1048576<(l0.length:Int))=false:=decide_eq_false c2;have c2b1:decide (1048576<l0.length)=false:=decide_eq_false (by omega);clear c2;replace H:=Option.bind_eq_some_iff.mp H;obtain ⟨t790,A30,H⟩:=H;replace H:((Uq.f k t790).bind fun t793=>((Ug.f k t790).bind fun t796=>((Zn.f k t793 t796).bind fun t799=>(if t799=true then ((Ye.f k t790).bind fun t800=>(if t800=true then (Xf.l0 k t790 t793 1) else (some ((t793.length:Int) == 0)))) else (some false)))))=some r:=H;have A3:=Xa.mk A30;clear A30;replace H:=Option.bind_eq_some_iff.mp H;obtain ⟨t793,A40,H⟩:=H;replace H:((Ug.f k t790).bind fun t796=>((Zn.f k t793 t796).bind fun t799=>(if t799=true then ((Ye.f k t790).bind fun t800=>(if t800=true then (Xf.l0 k t790 t793 1) else (some ((t793.length:Int) == 0)))) else (some false))))=some r:=H;have A4:=Xa.mk A40;clear A40;replace H:=Option.bind_eq_some_iff.mp H;obtain ⟨t796,A50,H⟩:=H;replace H:((Zn.f k t793 t796).bind fun t799=>(if t799=true then ((Ye.f k t790).bind fun t800=>(if t800=true then (Xf.l0 k t790 t793 1) else (some ((t793.length:Int) == 0)))) else (some false)))=some r:=H;have A5:=Xa.mk A50;clear A50;replace H:=Option.bind_eq_some_iff.mp H;obtain ⟨t799,A60,H⟩:=H;replace H:(if t799=true then ((Ye.f k t790).bind fun t800=>(if t800=true then (Xf.l0 k t790 t793 1) else (some ((t793.length:Int) == 0)))) else (some false))=some r:=H;have A6:=Xa.mk A60;clear A60;by_cases c7:t799=true
  ·subst c7
   have H1:((Ye.f k t790).bind fun t800=>(if t800=true then (Xf.l0 k t790 t793 1) else (some ((t793.length:Int) == 0))))=some r:=by rw [if_pos rfl] at H;exact H
   clear H;have H:=H1;clear H1;replace H:=Option.bind_eq_some_iff.mp H;obtain ⟨t800,A80,H⟩:=H;replace H:(if t800=true then (Xf.l0 k t790 t793 1) else (some ((t793.length:Int) == 0)))=some r:=H;have A8:=Xa.mk A80;clear A80;by_cases c9:t800=true
   ·subst c9
    have H1:(Xf.l0 k t790 t793 1)=some r:=by rw [if_pos rfl] at H;exact H
    clear H;have H:=H1;clear H1;have H':=Xa.mk H;clear H
    go_enter Try.func12,Try.ntmps12
    go_wp2_with (first|((with_reducible refine Xl (f:=35) rfl ?_);refine Ym (some 12) rfl rfl Try.func35 (by kernel_rfl) rfl #[.slice A0 l0.length c0] rfl ga_ ?_;(with_reducible refine (Ud.calls k _ _ l0 t790 _ ?side1 ?side2 A3.out).mono ?_);(case side1=>repeat (first|exact HR0.out|(with_reducible refine Kd.Yb ?_ _)|(with_reducible refine Kd.Yc ?_ _)|(with_reducible refine Kd.Yk ?_)));(case side2=>exact HC0.out);rintro e w10 ⟨v791,rfl,ho0,hb⟩;refine ⟨_,rfl,?_⟩;have n0_:=Xa.mk (Kd.Yj ho0 (Xd (bl_ HB)));have n1_:=Xa.mk (Xe (bl_ HB) hb);clear HB;have HO792:=n0_;have HB:=n1_;clear n0_ n1_;(try clear hb);(try clear hb2);(try clear hk);(try clear hi);(try clear ho0);obtain ⟨Ao11,co11,eo11⟩:=Kd.Zd HO792.out;subst eo11)|((with_reducible refine Xl (f:=24) rfl ?_);refine Ym (some 14) rfl rfl Try.func24 (by kernel_rfl) rfl #[.slice Ao11 t790.length co11] rfl ga_ ?_;(with_reducible refine (Uq.calls k _ _ t790 t793 _ ?side1 ?side2 A4.out).mono ?_);(case side1=>repeat (first|exact (Kd.R_reads' HO792.out).2.2|(with_reducible refine Kd.Yb ?_ _)|(with_reducible refine Kd.Yc ?_ _)|(with_reducible refine Kd.Yk ?_)));(case side2=>exact (Kd.R_reads' HO792.out).2.1);rintro e w12 ⟨v794,rfl,ho0,hb⟩;refine ⟨_,rfl,?_⟩;have n0_:=Xa.mk (Kd.Un (Kd.ra_ (HO792.out)) hb);have n1_:=Xa.mk (Kd.Yj ho0 (Xd (bl_ HB)));have n2_:=Xa.mk (Xe (bl_ HB) hb);clear HO792;clear HB;have HO792:=n0_;have HO795:=n1_;have HB:=n2_;clear n0_ n1_ n2_;(try clear hb);(try clear hb2);(try clear hk);(try clear hi);(try clear ho0))|((with_reducible refine Xl (f:=22) rfl ?_);refine Ym (some 17) rfl rfl Try.func22 (by kernel_rfl) rfl #[.slice Ao11 t790.length co11] rfl ga_ ?_;(with_reducible refine (Ug.calls k _ _ t790 t796 _ ?side1 ?side2 A5.out).mono ?_);(case side1=>repeat (first|exact (Kd.R_reads' HO792.out).2.2|(with_reducible refine Kd.Yb ?_ _)|(with_reducible refine Kd.Yc ?_ _)|(with_reducible refine Kd.Yk ?_)));(case side2=>exact (Kd.R_reads' HO792.out).2.1);rintro e w13 ⟨v797,rfl,ho0,hb⟩;refine ⟨_,rfl,?_⟩;have n0_:=Xa.mk (Kd.Un (Kd.ra_ (HO792.out)) hb);have n1_:=Xa.mk (Kd.R_elder' (Kd.ra_ (HO795.out)) (Kd.Zk ho0) hb);have n2_:=Xa.mk (Kd.Yj (Kd.R_new' ho0 (Kd.Uc (Kd.ra_ (HO795.out)))) (Xd (bl_ HB)));have n3_:=Xa.mk (Xe (bl_ HB) hb);clear HO792;clear HO795;clear HB;have HO792:=n0_;have HO795:=n1_;have HO798:=n2_;have HB:=n3_;clear n0_ n1_ n2_ n3_;(try clear hb);(try clear hb2);(try clear hk);(try clear hi);(try clear ho0);obtain ⟨Ao14,co14,eo14⟩:=Kd.Zd HO795.out;subst eo14;obtain ⟨Ao15,co15,eo15⟩:=Kd.Zd HO798.out;subst eo15)|((with_reducible refine Xl (f:=36) rfl ?_);refine Ym (some 18) rfl rfl Try.func36 (by kernel_rfl) rfl #[.slice Ao14 t793.length co14,.slice Ao15 t796.length co15] rfl ga_ ?_;(with_reducible refine (Zn.calls k _ _ t793 _ _ t796 true _ ?side1 ?side2 ?side3 ?side4 A6.out).mono ?_);(case side1=>repeat (first|exact (Kd.R_reads' HO795.out).2.2|(with_reducible refine Kd.Yb ?_ _)|(with_reducible refine Kd.Yc ?_ _)|(with_reducible refine Kd.Yk ?_)));(case side2=>exact (Kd.R_reads' HO795.out).2.1);(case side3=>repeat (first|exact (Kd.R_reads' HO798.out).2.2|(with_reducible refine Kd.Yb ?_ _)|(with_reducible refine Kd.Yc ?_ _)|(with_reducible refine Kd.Yk ?_)));(case side4=>exact (Kd.R_reads' HO798.out).2.1);rintro e w' ⟨rfl,⟨nd,rfl⟩⟩;refine ⟨_,rfl,?_⟩)|((with_reducible refine Xl (f:=37) rfl ?_);refine Ym (some 21) rfl rfl Try.func37 (by kernel_rfl) rfl #[.slice Ao11 t790.length co11] rfl ga_ ?_;(with_reducible refine (Ye.calls k _ _ t790 true _ ?side1 ?side2 A8.out).mono ?_);(case side1=>repeat (first|exact (Kd.R_reads' HO792.out).2.2|(with_reducible refine Kd.Yb ?_ _)|(with_reducible refine Kd.Yc ?_ _)|(with_reducible refine Kd.Yk ?_)));(case side2=>exact (Kd.R_reads' HO792.out).2.1);rintro e w16 ⟨rfl,hb⟩;refine ⟨_,rfl,?_⟩;have n0_:=Xa.mk (Kd.Un (Kd.ra_ (HO792.out)) hb);have n1_:=Xa.mk (Kd.Un (Kd.ra_ (HO795.out)) hb);have n2_:=Xa.mk (Kd.Un (Kd.ra_ (HO798.out)) hb);have n3_:=Xa.mk (Xe (bl_ HB) hb);clear HO792;clear HO795;clear HO798;clear HB;have HO792:=n0_;have HO795:=n1_;have HO798:=n2_;have HB:=n3_;clear n0_ n1_ n2_ n3_;(try clear hb);(try clear hb2);(try clear hk);(try clear hi)))
    go_loopg [5] k (fun kq v5 w'=>∃ (x5_1:Int),v5=.int .i64 x5_1∧Xa (Xf.l0 kq t790 t793 x5_1=some r)∧Xa (kq≤k)∧Xa (Kd.R k47 47 w' w.heap.size (fun _=>True) (.slice Ao11 t790.length co11) t790)∧Xa (Kd.R Kd.bool 4 w' w.heap.size (fun _=>True) (.slice Ao14 t793.length co14) t793)∧Xa (Below w.heap.size w w'))
    case atStart=>exact ⟨(1),(by first|rfl|(simp;done)|(simp [*];done)),H',⟨Nat.le_refl _⟩,⟨Kd.ra_ (HO792.out)⟩,⟨Kd.ra_ (Kd.Xp HO795.out (fun _ hk=>trivial))⟩,⟨bl_ HB⟩⟩
    case round=>
     clear H'
     try clear c1
     try clear c2
     try clear c2b0
     try clear c2b1
     try clear p2
     try clear c3
     try clear c7
     try clear c9
     try clear c12
     obtain ⟨x5_1,rfl,HA,HK1,HO_3,HO_4,HB⟩:=hrel
     cases gk with
     |zero=>exact absurd HA.out (by simp [Xf.l0])
     |succ k1=>
      have H:=HA.out;clear HA;simp only [Xf.l0] at H;by_cases c17:x5_1<(t790.length:Int)
      ·rw [if_pos c17] at H;have c17b0:decide (x5_1<(t790.length:Int))=true:=decide_eq_true c17;clear c17;have HC18:=Xa.mk H;clear H
       go_upto_region 12 with (fail)
       go_cut [6] (fun v6 wc=>∃ (kq:Nat) (x6_17:Bool),v6=.bool x6_17∧Xa (Xf.j1 kq t790 t793 x5_1 x6_17=some r)∧Xa (kq≤k1)∧Xa (Kd.R k47 47 wc w.heap.size (fun _=>True) (.slice Ao11 t790.length co11) t790)∧Xa (Kd.R Kd.bool 4 wc w.heap.size (fun _=>True) (.slice Ao14 t793.length co14) t793)∧Xa (Below w.heap.size w wc))
       case first=>
        have H:=HC18.out;clear HC18;obtain ⟨ji19,hji19⟩:∃ j_:Int,(wrap64 (x5_1 - 1))=j_:=⟨_,rfl⟩
        replace H:(if 0≤(ji19) then (if (ji19)<(t793.length:Int) then (if rdOf false t793 (ji19)=true then (if (ji19)<(t790.length:Int) then (if ((Xb t790 (ji19)).f0)=7 then (Xf.j1 k1 t790 t793 x5_1 false) else (Xf.j1 k1 t790 t793 x5_1 (((Xb t790 (ji19)).f0) != 13))) else (none)) else (Xf.j1 k1 t790 t793 x5_1 false)) else (none)) else (none))=some r:=by first|(rw [hji19] at H;exact H)|(simp only [hji19] at H ⊢;exact H)
        have hji19w:(IntKind.i64.wrap (x5_1 - 1))=ji19:=(Xw _).trans hji19;by_cases c20:0≤(ji19)
        ·rw [if_pos c20] at H;have c20b0:decide (0≤(ji19))=true:=decide_eq_true c20;clear c20
         (first|rw [c20b0]|(simp only [Xw,Xy];rw [c20b0])|skip)
         by_cases c21:(ji19)<(t793.length:Int)
         ·rw [if_pos c21] at H;have c21b0:decide ((ji19)<(t793.length:Int))=true:=decide_eq_true c21;clear c21;obtain ⟨bq22,hbq22⟩:∃ b_:Bool,b_=(rdOf false t793 (ji19)):=⟨_,rfl⟩
          replace H:(if bq22=true then (if (ji19)<(t790.length:Int) then (if ((Xb t790 (ji19)).f0)=7 then (Xf.j1 k1 t790 t793 x5_1 false) else (Xf.j1 k1 t790 t793 x5_1 (((Xb t790 (ji19)).f0) != 13))) else (none)) else (Xf.j1 k1 t790 t793 x5_1 false))=some r:=by rw [← hbq22] at H;exact H
          have Nbq22:=Xa.mk hbq22;clear hbq22;by_cases c23:bq22=true
          ·subst c23
           have H1:(if (ji19)<(t790.length:Int) then (if ((Xb t790 (ji19)).f0)=7 then (Xf.j1 k1 t790 t793 x5_1 false) else (Xf.j1 k1 t790 t793 x5_1 (((Xb t790 (ji19)).f0) != 13))) else (none))=some r:=by rw [if_pos rfl] at H;exact H
           clear H;have H:=H1;clear H1;by_cases c24:(ji19)<(t790.length:Int)
           ·rw [if_pos c24] at H;have c24b0:decide ((ji19)<(t790.length:Int))=true:=decide_eq_true c24;clear c24;by_cases c25:((Xb t790 (ji19)).f0)=7
            ·rw [if_pos c25] at H;have c25b0:(((Xb t790 (ji19)).f0) == 7)=true:=beq_iff_eq.mpr c25;have c25b1:(((Xb t790 (ji19)).f0) != 7)=false:=bne_eq_false_iff_eq.mpr c25;clear c25;have H':=Xa.mk H;clear H;have p802:0≤((ji19):Int):=of_decide_eq_true (by first|(with_reducible assumption)|assumption);have q802:(ji19)<(t793.length:Int):=of_decide_eq_true (by first|(with_reducible assumption)|assumption);obtain ⟨ad802,e802,hx802_0⟩:=Kd.at_bool (Kd.R_reads' HO_4.out).2.2 (ji19) p802 q802
             (try rw [← Nbq22.out] at hx802_0)
             cases e802
             replace p802:=eq_true p802;replace q802:=eq_true q802;have p803:0≤((ji19):Int):=of_decide_eq_true (by first|(with_reducible assumption)|assumption);have q803:(ji19)<(t790.length:Int):=of_decide_eq_true (by first|(with_reducible assumption)|assumption);obtain ⟨ad803,e803,hx803_0,hx803_1,hx803_2,hx803_3⟩:=Uo (Kd.R_reads' HO_3.out).2.2 (ji19) p803 q803;cases e803
             replace p803:=eq_true p803;replace q803:=eq_true q803;go_wp2
             go_meet
             case rel=>exact ⟨_,(false),(by first|rfl|(simp;done)|(simp [*];done)),H',⟨by have:=HK1.out;first|omega|exact Nat.le_refl _⟩,⟨Kd.ra_ (HO_3.out)⟩,⟨Kd.ra_ (HO_4.out)⟩,⟨bl_ HB⟩⟩
            ·rw [if_neg c25] at H;have c25b0:(((Xb t790 (ji19)).f0) == 7)=false:=beq_eq_false_iff_ne.mpr c25;have c25b1:(((Xb t790 (ji19)).f0) != 7)=true:=bne_iff_ne.mpr c25;have H':=Xa.mk H;clear H;have p802:0≤((ji19):Int):=of_decide_eq_true (by first|(with_reducible assumption)|assumption);have q802:(ji19)<(t793.length:Int):=of_decide_eq_true (by first|(with_reducible assumption)|assumption);obtain ⟨ad802,e802,hx802_0⟩:=Kd.at_bool (Kd.R_reads' HO_4.out).2.2 (ji19) p802 q802
             (try rw [← Nbq22.out] at hx802_0)
             cases e802
             replace p802:=eq_true p802;replace q802:=eq_true q802;have p803:0≤((ji19):Int):=of_decide_eq_true (by first|(with_reducible assumption)|assumption);have q803:(ji19)<(t790.length:Int):=of_decide_eq_true (by first|(with_reducible assumption)|assumption);obtain ⟨ad803,e803,hx803_0,hx803_1,hx803_2,hx803_3⟩:=Uo (Kd.R_reads' HO_3.out).2.2 (ji19) p803 q803;cases e803
             replace p803:=eq_true p803;replace q803:=eq_true q803;have p804:0≤((ji19):Int):=of_decide_eq_true (by first|(with_reducible assumption)|assumption);have q804:(ji19)<(t790.length:Int):=of_decide_eq_true (by first|(with_reducible assumption)|assumption);obtain ⟨ad804,e804,hx804_0,hx804_1,hx804_2,hx804_3⟩:=Uo (Kd.R_reads' HO_3.out).2.2 (ji19) p804 q804;obtain rfl:ad803=ad804:=(by injection e804);replace p804:=eq_true p804;replace q804:=eq_true q804;go_wp2
             go_meet
             case rel=>exact ⟨_,((((Xb t790 (ji19)).f0) != 13)),(by first|rfl|(simp;done)|(simp only [← hji19] <;> (first|rfl|simp))|(simp [*];done)),H',⟨by have:=HK1.out;first|omega|exact Nat.le_refl _⟩,⟨Kd.ra_ (HO_3.out)⟩,⟨Kd.ra_ (HO_4.out)⟩,⟨bl_ HB⟩⟩
           ·rw [if_neg c24] at H;exact absurd H (by simp)
          ·replace c23:=Bool.eq_false_iff.mpr c23;subst c23
           have H1:(Xf.j1 k1 t790 t793 x5_1 false)=some r:=by rw [if_neg (show ¬ (false=true) by decide)] at H;exact H
           clear H;have H:=H1;clear H1;have H':=Xa.mk H;clear H;have p802:0≤((ji19):Int):=of_decide_eq_true (by first|(with_reducible assumption)|assumption);have q802:(ji19)<(t793.length:Int):=of_decide_eq_true (by first|(with_reducible assumption)|assumption);obtain ⟨ad802,e802,hx802_0⟩:=Kd.at_bool (Kd.R_reads' HO_4.out).2.2 (ji19) p802 q802
           (try rw [← Nbq22.out] at hx802_0)
           cases e802
           replace p802:=eq_true p802;replace q802:=eq_true q802;go_wp2
           go_meet
           case rel=>exact ⟨_,(false),(by first|rfl|(simp;done)|(simp [*];done)),H',⟨by have:=HK1.out;first|omega|exact Nat.le_refl _⟩,⟨Kd.ra_ (HO_3.out)⟩,⟨Kd.ra_ (HO_4.out)⟩,⟨bl_ HB⟩⟩
         ·rw [if_neg c21] at H;exact absurd H (by simp)
        ·rw [if_neg c20] at H;exact absurd H (by simp)
       case rest=>
        clear HC18
        try clear c1
        try clear c2
        try clear c2b0
        try clear c2b1
        try clear p2
        try clear q2
        try clear c3
        try clear p6
        try clear c7
        try clear p8
        try clear q8
        try clear hx8
        try clear c9
        try clear c12
        try clear c17
        try clear c17b0
        try clear c20
        try clear c20b0
        try clear c21
        try clear c21b0
        try clear c22
        try clear q22
        try clear c23
        try clear c24
        try clear c24b0
        try clear c25
        try clear c25b0
        try clear c25b1
        try clear hx802_0
        try clear hx803_0
        try clear hx803_1
        try clear hx803_2
        try clear hx803_3
        try clear hx804_0
        try clear hx804_1
        try clear hx804_2
        try clear hx804_3
        try clear p2
        try clear p802
        try clear p803
        try clear p804
        try clear q802
        try clear q803
        try clear q804
        obtain ⟨kq,x6_17,rfl,HA,HJ17,HO_3,HO_4,HB⟩:=hcut
        cases kq with
        |zero=>exact absurd HA.out (by simp [Xf.j1])
        |succ kj17=>
         have H:=HA.out;clear HA;simp only [Xf.j1] at H;have H':=Xa.mk H;clear H;go_wp2
         go_loopg [6,7] kj17 (fun kq v6 v7 w'=>∃ (x6_3:Bool) (x7_3:Int),v6=.bool x6_3∧v7=.int .i64 x7_3∧Xa (Xf.l1 kq t790 t793 x5_1 x6_3 x7_3=some r)∧Xa (kq≤kj17)∧Xa (Kd.R k47 47 w' w.heap.size (fun _=>True) (.slice Ao11 t790.length co11) t790)∧Xa (Kd.R Kd.bool 4 w' w.heap.size (fun _=>True) (.slice Ao14 t793.length co14) t793)∧Xa (Below w.heap.size w w'))
         case atStart=>exact ⟨(x6_17),(0),(by first|rfl|(simp;done)|(simp [*];done)),(by first|rfl|(simp;done)|(simp [*];done)),H',⟨Nat.le_refl _⟩,⟨Kd.ra_ (HO_3.out)⟩,⟨Kd.ra_ (HO_4.out)⟩,⟨bl_ HB⟩⟩
         case round=>
          clear H'
          try clear c1
          try clear c2
          try clear c2b0
          try clear c2b1
          try clear p2
          try clear q2
          try clear c3
          try clear p6
          try clear c7
          try clear p8
          try clear q8
          try clear hx8
          try clear c9
          try clear c12
          try clear c17
          try clear c17b0
          try clear c20
          try clear c20b0
          try clear c21
          try clear c21b0
          try clear c22
          try clear q22
          try clear c23
          try clear c24
          try clear c24b0
          try clear c25
          try clear c25b0
          try clear c25b1
          try clear hx802_0
          try clear hx803_0
          try clear hx803_1
          try clear hx803_2
          try clear hx803_3
          try clear hx804_0
          try clear hx804_1
          try clear hx804_2
          try clear hx804_3
          try clear p2
          try clear p6
          try clear p8
          try clear p802
          try clear p803
          try clear p804
          try clear q2
          try clear q22
          try clear q8
          try clear q802
          try clear q803
          try clear q804
          obtain ⟨x6_3,x7_3,rfl,rfl,HA,HK3,HO_3,HO_4,HB⟩:=hrel
          cases gk with
          |zero=>exact absurd HA.out (by simp [Xf.l1])
          |succ k3=>
           have H:=HA.out;clear HA;simp only [Xf.l1] at H;by_cases c26:x7_3<(t790.length:Int)
           ·rw [if_pos c26] at H;have c26b0:decide (x7_3<(t790.length:Int))=true:=decide_eq_true c26;clear c26;by_cases c27:x6_3=true
            ·subst c27
             have H1:(Xf.l1 k3 t790 t793 x5_1 true (wrap64 (x7_3+1)))=some r:=by rw [if_pos rfl] at H;exact H
             clear H;have H:=H1;clear H1;have H':=Xa.mk H;clear H;go_wp2
             go_roundg k3
             case measure=>have:=HK1.out;have:=HJ17.out;have:=HK3.out;omega
             case rel=>exact ⟨(true),(wrap64 (x7_3+1)),(by first|rfl|(simp;done)|(simp [*];done)),(by first|rfl|(simp;done)|(simp [*];done)),H',⟨by have:=HK1.out;have:=HJ17.out;have:=HK3.out;omega⟩,⟨Kd.ra_ (HO_3.out)⟩,⟨Kd.ra_ (HO_4.out)⟩,⟨bl_ HB⟩⟩
            ·replace c27:=Bool.eq_false_iff.mpr c27;subst c27
             have H1:(if 0≤x7_3 then (if x7_3<(t793.length:Int) then (if rdOf false t793 x7_3=true then (if ((Xb t790 x7_3).f0)=7 then (Xf.l1 k3 t790 t793 x5_1 (((Xb t790 x7_3).f3) == x5_1) (wrap64 (x7_3+1))) else (if ((Xb t790 x7_3).f0)=6 then (Xf.l1 k3 t790 t793 x5_1 (((Xb t790 x7_3).f3) == x5_1) (wrap64 (x7_3+1))) else (Xf.l1 k3 t790 t793 x5_1 false (wrap64 (x7_3+1))))) else (Xf.l1 k3 t790 t793 x5_1 false (wrap64 (x7_3+1)))) else (none)) else (none))=some r:=by rw [if_neg (show ¬ (false=true) by decide)] at H;exact H
             clear H;have H:=H1;clear H1;by_cases c28:0≤x7_3
             ·rw [if_pos c28] at H;have c28b0:decide (0≤x7_3)=true:=decide_eq_true c28;clear c28;by_cases c29:x7_3<(t793.length:Int)
              ·rw [if_pos c29] at H;have c29b0:decide (x7_3<(t793.length:Int))=true:=decide_eq_true c29;clear c29;obtain ⟨bq30,hbq30⟩:∃ b_:Bool,b_=(rdOf false t793 x7_3):=⟨_,rfl⟩
               replace H:(if bq30=true then (if ((Xb t790 x7_3).f0)=7 then (Xf.l1 k3 t790 t793 x5_1 (((Xb t790 x7_3).f3) == x5_1) (wrap64 (x7_3+1))) else (if ((Xb t790 x7_3).f0)=6 then (Xf.l1 k3 t790 t793 x5_1 (((Xb t790 x7_3).f3) == x5_1) (wrap64 (x7_3+1))) else (Xf.l1 k3 t790 t793 x5_1 false (wrap64 (x7_3+1))))) else (Xf.l1 k3 t790 t793 x5_1 false (wrap64 (x7_3+1))))=some r:=by rw [← hbq30] at H;exact H
               have Nbq30:=Xa.mk hbq30;clear hbq30;by_cases c31:bq30=true
               ·subst c31
                have H1:(if ((Xb t790 x7_3).f0)=7 then (Xf.l1 k3 t790 t793 x5_1 (((Xb t790 x7_3).f3) == x5_1) (wrap64 (x7_3+1))) else (if ((Xb t790 x7_3).f0)=6 then (Xf.l1 k3 t790 t793 x5_1 (((Xb t790 x7_3).f3) == x5_1) (wrap64 (x7_3+1))) else (Xf.l1 k3 t790 t793 x5_1 false (wrap64 (x7_3+1)))))=some r:=by rw [if_pos rfl] at H;exact H
                clear H;have H:=H1;clear H1;by_cases c32:((Xb t790 x7_3).f0)=7
                ·rw [if_pos c32] at H;have c32b0:(((Xb t790 x7_3).f0) == 7)=true:=beq_iff_eq.mpr c32;have c32b1:(((Xb t790 x7_3).f0) != 7)=false:=bne_eq_false_iff_eq.mpr c32;clear c32;have H':=Xa.mk H;clear H;have p805:0≤(x7_3:Int):=of_decide_eq_true (by first|(with_reducible assumption)|assumption);have q805:x7_3<(t793.length:Int):=of_decide_eq_true (by first|(with_reducible assumption)|assumption);obtain ⟨ad805,e805,hx805_0⟩:=Kd.at_bool (Kd.R_reads' HO_4.out).2.2 x7_3 p805 q805
                 (try rw [← Nbq30.out] at hx805_0)
                 cases e805
                 replace p805:=eq_true p805;replace q805:=eq_true q805;have p806:0≤(x7_3:Int):=of_decide_eq_true (by first|(with_reducible assumption)|assumption);have q806:x7_3<(t790.length:Int):=of_decide_eq_true (by first|(with_reducible assumption)|assumption);obtain ⟨ad806,e806,hx806_0,hx806_1,hx806_2,hx806_3⟩:=Uo (Kd.R_reads' HO_3.out).2.2 x7_3 p806 q806;cases e806
                 replace p806:=eq_true p806;replace q806:=eq_true q806;have p807:0≤(x7_3:Int):=of_decide_eq_true (by first|(with_reducible assumption)|assumption);have q807:x7_3<(t790.length:Int):=of_decide_eq_true (by first|(with_reducible assumption)|assumption);obtain ⟨ad807,e807,hx807_0,hx807_1,hx807_2,hx807_3⟩:=Uo (Kd.R_reads' HO_3.out).2.2 x7_3 p807 q807;obtain rfl:ad806=ad807:=(by injection e807);replace p807:=eq_true p807;replace q807:=eq_true q807;go_wp2
                 go_roundg k3
                 case measure=>have:=HK1.out;have:=HJ17.out;have:=HK3.out;omega
                 case rel=>exact ⟨((((Xb t790 x7_3).f3) == x5_1)),(wrap64 (x7_3+1)),(by first|rfl|(simp;done)|(simp [*];done)),(by first|rfl|(simp;done)|(simp [*];done)),H',⟨by have:=HK1.out;have:=HJ17.out;have:=HK3.out;omega⟩,⟨Kd.ra_ (HO_3.out)⟩,⟨Kd.ra_ (HO_4.out)⟩,⟨bl_ HB⟩⟩
                ·rw [if_neg c32] at H;have c32b0:(((Xb t790 x7_3).f0) == 7)=false:=beq_eq_false_iff_ne.mpr c32;have c32b1:(((Xb t790 x7_3).f0) != 7)=true:=bne_iff_ne.mpr c32;by_cases c33:((Xb t790 x7_3).f0)=6
                 ·rw [if_pos c33] at H;have c33b0:(((Xb t790 x7_3).f0) == 6)=true:=beq_iff_eq.mpr c33;have c33b1:(((Xb t790 x7_3).f0) != 6)=false:=bne_eq_false_iff_eq.mpr c33;clear c33;have H':=Xa.mk H;clear H;have p805:0≤(x7_3:Int):=of_decide_eq_true (by first|(with_reducible assumption)|assumption);have q805:x7_3<(t793.length:Int):=of_decide_eq_true (by first|(with_reducible assumption)|assumption);obtain ⟨ad805,e805,hx805_0⟩:=Kd.at_bool (Kd.R_reads' HO_4.out).2.2 x7_3 p805 q805
                  (try rw [← Nbq30.out] at hx805_0)
                  cases e805
                  replace p805:=eq_true p805;replace q805:=eq_true q805;have p806:0≤(x7_3:Int):=of_decide_eq_true (by first|(with_reducible assumption)|assumption);have q806:x7_3<(t790.length:Int):=of_decide_eq_true (by first|(with_reducible assumption)|assumption);obtain ⟨ad806,e806,hx806_0,hx806_1,hx806_2,hx806_3⟩:=Uo (Kd.R_reads' HO_3.out).2.2 x7_3 p806 q806;cases e806
                  replace p806:=eq_true p806;replace q806:=eq_true q806;have p808:0≤(x7_3:Int):=of_decide_eq_true (by first|(with_reducible assumption)|assumption);have q808:x7_3<(t790.length:Int):=of_decide_eq_true (by first|(with_reducible assumption)|assumption);obtain ⟨ad808,e808,hx808_0,hx808_1,hx808_2,hx808_3⟩:=Uo (Kd.R_reads' HO_3.out).2.2 x7_3 p808 q808;obtain rfl:ad806=ad808:=(by injection e808);replace p808:=eq_true p808;replace q808:=eq_true q808;have p809:0≤(x7_3:Int):=of_decide_eq_true (by first|(with_reducible assumption)|assumption);have q809:x7_3<(t790.length:Int):=of_decide_eq_true (by first|(with_reducible assumption)|assumption);obtain ⟨ad809,e809,hx809_0,hx809_1,hx809_2,hx809_3⟩:=Uo (Kd.R_reads' HO_3.out).2.2 x7_3 p809 q809;obtain rfl:ad806=ad809:=(by injection e809);replace p809:=eq_true p809;replace q809:=eq_true q809;go_wp2
                  go_roundg k3
                  case measure=>have:=HK1.out;have:=HJ17.out;have:=HK3.out;omega
                  case rel=>exact ⟨((((Xb t790 x7_3).f3) == x5_1)),(wrap64 (x7_3+1)),(by first|rfl|(simp;done)|(simp [*];done)),(by first|rfl|(simp;done)|(simp [*];done)),H',⟨by have:=HK1.out;have:=HJ17.out;have:=HK3.out;omega⟩,⟨Kd.ra_ (HO_3.out)⟩,⟨Kd.ra_ (HO_4.out)⟩,⟨bl_ HB⟩⟩
                 ·rw [if_neg c33] at H;have c33b0:(((Xb t790 x7_3).f0) == 6)=false:=beq_eq_false_iff_ne.mpr c33;have c33b1:(((Xb t790 x7_3).f0) != 6)=true:=bne_iff_ne.mpr c33;have H':=Xa.mk H;clear H;have p805:0≤(x7_3:Int):=of_decide_eq_true (by first|(with_reducible assumption)|assumption);have q805:x7_3<(t793.length:Int):=of_decide_eq_true (by first|(with_reducible assumption)|assumption);obtain ⟨ad805,e805,hx805_0⟩:=Kd.at_bool (Kd.R_reads' HO_4.out).2.2 x7_3 p805 q805
                  (try rw [← Nbq30.out] at hx805_0)
                  cases e805
                  replace p805:=eq_true p805;replace q805:=eq_true q805;have p806:0≤(x7_3:Int):=of_decide_eq_true (by first|(with_reducible assumption)|assumption);have q806:x7_3<(t790.length:Int):=of_decide_eq_true (by first|(with_reducible assumption)|assumption);obtain ⟨ad806,e806,hx806_0,hx806_1,hx806_2,hx806_3⟩:=Uo (Kd.R_reads' HO_3.out).2.2 x7_3 p806 q806;cases e806
                  replace p806:=eq_true p806;replace q806:=eq_true q806;have p808:0≤(x7_3:Int):=of_decide_eq_true (by first|(with_reducible assumption)|assumption);have q808:x7_3<(t790.length:Int):=of_decide_eq_true (by first|(with_reducible assumption)|assumption);obtain ⟨ad808,e808,hx808_0,hx808_1,hx808_2,hx808_3⟩:=Uo (Kd.R_reads' HO_3.out).2.2 x7_3 p808 q808;obtain rfl:ad806=ad808:=(by injection e808);replace p808:=eq_true p808;replace q808:=eq_true q808;go_wp2
                  go_roundg k3
                  case measure=>have:=HK1.out;have:=HJ17.out;have:=HK3.out;omega
                  case rel=>exact ⟨(false),(wrap64 (x7_3+1)),(by first|rfl|(simp;done)|(simp [*];done)),(by first|rfl|(simp;done)|(simp [*];done)),H',⟨by have:=HK1.out;have:=HJ17.out;have:=HK3.out;omega⟩,⟨Kd.ra_ (HO_3.out)⟩,⟨Kd.ra_ (HO_4.out)⟩,⟨bl_ HB⟩⟩
               ·replace c31:=Bool.eq_false_iff.mpr c31;subst c31
                have H1:(Xf.l1 k3 t790 t793 x5_1 false (wrap64 (x7_3+1)))=some r:=by rw [if_neg (show ¬ (false=true) by decide)] at H;exact H
                clear H;have H:=H1;clear H1;have H':=Xa.mk H;clear H;have p805:0≤(x7_3:Int):=of_decide_eq_true (by first|(with_reducible assumption)|assumption);have q805:x7_3<(t793.length:Int):=of_decide_eq_true (by first|(with_reducible assumption)|assumption);obtain ⟨ad805,e805,hx805_0⟩:=Kd.at_bool (Kd.R_reads' HO_4.out).2.2 x7_3 p805 q805
                (try rw [← Nbq30.out] at hx805_0)
                cases e805
                replace p805:=eq_true p805;replace q805:=eq_true q805;go_wp2
                go_roundg k3
                case measure=>have:=HK1.out;have:=HJ17.out;have:=HK3.out;omega
                case rel=>exact ⟨(false),(wrap64 (x7_3+1)),(by first|rfl|(simp;done)|(simp [*];done)),(by first|rfl|(simp;done)|(simp [*];done)),H',⟨by have:=HK1.out;have:=HJ17.out;have:=HK3.out;omega⟩,⟨Kd.ra_ (HO_3.out)⟩,⟨Kd.ra_ (HO_4.out)⟩,⟨bl_ HB⟩⟩
              ·rw [if_neg c29] at H;exact absurd H (by simp)
             ·rw [if_neg c28] at H;exact absurd H (by simp)
           ·rw [if_neg c26] at H;have c26b0:decide (x7_3<(t790.length:Int))=false:=decide_eq_false c26;clear c26;by_cases c34:0≤x5_1
            ·rw [if_pos c34] at H;have c34b0:decide (0≤x5_1)=true:=decide_eq_true c34;clear c34;by_cases c35:x5_1<(t793.length:Int)
             ·rw [if_pos c35] at H;have c35b0:decide (x5_1<(t793.length:Int))=true:=decide_eq_true c35;clear c35;obtain ⟨bq36,hbq36⟩:∃ b_:Bool,b_=(rdOf false t793 x5_1):=⟨_,rfl⟩
              replace H:(if bq36=true then (if x6_3=true then (Xf.l0 k3 t790 t793 (wrap64 (x5_1+1))) else (some false)) else (if x6_3=true then (some false) else (Xf.l0 k3 t790 t793 (wrap64 (x5_1+1)))))=some r:=by rw [← hbq36] at H;exact H
              have Nbq36:=Xa.mk hbq36;clear hbq36;by_cases c37:bq36=true
              ·subst c37
               have H1:(if x6_3=true then (Xf.l0 k3 t790 t793 (wrap64 (x5_1+1))) else (some false))=some r:=by rw [if_pos rfl] at H;exact H
               clear H;have H:=H1;clear H1;by_cases c38:x6_3=true
               ·subst c38
                have H1:(Xf.l0 k3 t790 t793 (wrap64 (x5_1+1)))=some r:=by rw [if_pos rfl] at H;exact H
                clear H;have H:=H1;clear H1;have H':=Xa.mk H;clear H;have p810:0≤(x5_1:Int):=of_decide_eq_true (by first|(with_reducible assumption)|assumption);have q810:x5_1<(t793.length:Int):=of_decide_eq_true (by first|(with_reducible assumption)|assumption);obtain ⟨ad810,e810,hx810_0⟩:=Kd.at_bool (Kd.R_reads' HO_4.out).2.2 x5_1 p810 q810
                (try rw [← Nbq36.out] at hx810_0)
                cases e810
                replace p810:=eq_true p810;replace q810:=eq_true q810;have p811:0≤(x5_1:Int):=of_decide_eq_true (by first|(with_reducible assumption)|assumption);have q811:x5_1<(t793.length:Int):=of_decide_eq_true (by first|(with_reducible assumption)|assumption);obtain ⟨ad811,e811,hx811_0⟩:=Kd.at_bool (Kd.R_reads' HO_4.out).2.2 x5_1 p811 q811
                (try rw [← Nbq36.out] at hx811_0)
                obtain rfl:ad810=ad811:=(by injection e811);replace p811:=eq_true p811;replace q811:=eq_true q811;go_wp2
                go_roundg k3
                case measure=>have:=HK1.out;have:=HJ17.out;have:=HK3.out;omega
                case rel=>exact ⟨(wrap64 (x5_1+1)),(by first|rfl|(simp;done)|(simp [*];done)),H',⟨by have:=HK1.out;have:=HJ17.out;have:=HK3.out;omega⟩,⟨Kd.ra_ (HO_3.out)⟩,⟨Kd.ra_ (HO_4.out)⟩,⟨bl_ HB⟩⟩
               ·replace c38:=Bool.eq_false_iff.mpr c38;subst c38
                have H1:(some false)=some r:=by rw [if_neg (show ¬ (false=true) by decide)] at H;exact H
                clear H;have H:=H1;clear H1;obtain rfl:=Option.some.inj H;have p810:0≤(x5_1:Int):=of_decide_eq_true (by first|(with_reducible assumption)|assumption);have q810:x5_1<(t793.length:Int):=of_decide_eq_true (by first|(with_reducible assumption)|assumption);obtain ⟨ad810,e810,hx810_0⟩:=Kd.at_bool (Kd.R_reads' HO_4.out).2.2 x5_1 p810 q810
                (try rw [← Nbq36.out] at hx810_0)
                cases e810
                replace p810:=eq_true p810;replace q810:=eq_true q810;go_wp2
                go_ret
                exact ⟨rf_,bl_ HB⟩
              ·replace c37:=Bool.eq_false_iff.mpr c37;subst c37
               have H1:(if x6_3=true then (some false) else (Xf.l0 k3 t790 t793 (wrap64 (x5_1+1))))=some r:=by rw [if_neg (show ¬ (false=true) by decide)] at H;exact H
               clear H;have H:=H1;clear H1;by_cases c39:x6_3=true
               ·subst c39
                have H1:(some false)=some r:=by rw [if_pos rfl] at H;exact H
                clear H;have H:=H1;clear H1;obtain rfl:=Option.some.inj H;have p810:0≤(x5_1:Int):=of_decide_eq_true (by first|(with_reducible assumption)|assumption);have q810:x5_1<(t793.length:Int):=of_decide_eq_true (by first|(with_reducible assumption)|assumption);obtain ⟨ad810,e810,hx810_0⟩:=Kd.at_bool (Kd.R_reads' HO_4.out).2.2 x5_1 p810 q810
                (try rw [← Nbq36.out] at hx810_0)
                cases e810
                replace p810:=eq_true p810;replace q810:=eq_true q810;have p812:0≤(x5_1:Int):=of_decide_eq_true (by first|(with_reducible assumption)|assumption);have q812:x5_1<(t793.length:Int):=of_decide_eq_true (by first|(with_reducible assumption)|assumption);obtain ⟨ad812,e812,hx812_0⟩:=Kd.at_bool (Kd.R_reads' HO_4.out).2.2 x5_1 p812 q812
                (try rw [← Nbq36.out] at hx812_0)
                obtain rfl:ad810=ad812:=(by injection e812);replace p812:=eq_true p812;replace q812:=eq_true q812;go_wp2
                go_ret
                exact ⟨rf_,bl_ HB⟩
               ·replace c39:=Bool.eq_false_iff.mpr c39;subst c39
                have H1:(Xf.l0 k3 t790 t793 (wrap64 (x5_1+1)))=some r:=by rw [if_neg (show ¬ (false=true) by decide)] at H;exact H
                clear H;have H:=H1;clear H1;have H':=Xa.mk H;clear H;have p810:0≤(x5_1:Int):=of_decide_eq_true (by first|(with_reducible assumption)|assumption);have q810:x5_1<(t793.length:Int):=of_decide_eq_true (by first|(with_reducible assumption)|assumption);obtain ⟨ad810,e810,hx810_0⟩:=Kd.at_bool (Kd.R_reads' HO_4.out).2.2 x5_1 p810 q810
                (try rw [← Nbq36.out] at hx810_0)
                cases e810
                replace p810:=eq_true p810;replace q810:=eq_true q810;go_wp2
                go_roundg k3
                case measure=>have:=HK1.out;have:=HJ17.out;have:=HK3.out;omega
                case rel=>exact ⟨(wrap64 (x5_1+1)),(by first|rfl|(simp;done)|(simp [*];done)),H',⟨by have:=HK1.out;have:=HJ17.out;have:=HK3.out;omega⟩,⟨Kd.ra_ (HO_3.out)⟩,⟨Kd.ra_ (HO_4.out)⟩,⟨bl_ HB⟩⟩
             ·rw [if_neg c35] at H;exact absurd H (by simp)
            ·rw [if_neg c34] at H;exact absurd H (by simp)
      ·rw [if_neg c17] at H;have c17b0:decide (x5_1<(t790.length:Int))=false:=decide_eq_false c17;clear c17;by_cases c40:0<(t793.length:Int)
       ·rw [if_pos c40] at H;have c40b0:decide (0<(t793.length:Int))=true:=decide_eq_true c40;have c40b1:decide (0<t793.length)=true:=decide_eq_true (by omega);clear c40;obtain rfl:=Option.some.inj H;have p801:0≤(0:Int):=(by omega);have q801:0<(t793.length:Int):=of_decide_eq_true (by first|(with_reducible assumption)|assumption);obtain ⟨ad801,e801,hx801_0⟩:=Kd.at_bool (Kd.R_reads' HO_4.out).2.2 0 p801 q801;cases e801
        have qi801:(0<t793.length)=True:=eq_true (by omega)
        (try rw [show ((0:Int)).toNat=0 from rfl] at hx801_0)
        (try rw [Addr.add_zero'] at hx801_0)
        replace p801:=eq_true p801;replace q801:=eq_true q801;go_wp2
        go_ret
        exact ⟨rf_,bl_ HB⟩
       ·rw [if_neg c40] at H;exact absurd H (by simp)
   ·replace c9:=Bool.eq_false_iff.mpr c9;subst c9
    have H1:(some ((t793.length:Int) == 0))=some r:=by rw [if_neg (show ¬ (false=true) by decide)] at H;exact H
    clear H;have H:=H1;clear H1;obtain rfl:=Option.some.inj H
    go_enter Try.func12,Try.ntmps12
    go_wp2_with (first|((with_reducible refine Xl (f:=35) rfl ?_);refine Ym (some 12) rfl rfl Try.func35 (by kernel_rfl) rfl #[.slice A0 l0.length c0] rfl ga_ ?_;(with_reducible refine (Ud.calls k _ _ l0 t790 _ ?side1 ?side2 A3.out).mono ?_);(case side1=>repeat (first|exact HR0.out|(with_reducible refine Kd.Yb ?_ _)|(with_reducible refine Kd.Yc ?_ _)|(with_reducible refine Kd.Yk ?_)));(case side2=>exact HC0.out);rintro e w41 ⟨v791,rfl,ho0,hb⟩;refine ⟨_,rfl,?_⟩;have n0_:=Xa.mk (Kd.Yj ho0 (Xd (bl_ HB)));have n1_:=Xa.mk (Xe (bl_ HB) hb);clear HB;have HO792:=n0_;have HB:=n1_;clear n0_ n1_;(try clear hb);(try clear hb2);(try clear hk);(try clear hi);(try clear ho0);obtain ⟨Ao42,co42,eo42⟩:=Kd.Zd HO792.out;subst eo42)|((with_reducible refine Xl (f:=24) rfl ?_);refine Ym (some 14) rfl rfl Try.func24 (by kernel_rfl) rfl #[.slice Ao42 t790.length co42] rfl ga_ ?_;(with_reducible refine (Uq.calls k _ _ t790 t793 _ ?side1 ?side2 A4.out).mono ?_);(case side1=>repeat (first|exact (Kd.R_reads' HO792.out).2.2|(with_reducible refine Kd.Yb ?_ _)|(with_reducible refine Kd.Yc ?_ _)|(with_reducible refine Kd.Yk ?_)));(case side2=>exact (Kd.R_reads' HO792.out).2.1);rintro e w43 ⟨v794,rfl,ho0,hb⟩;refine ⟨_,rfl,?_⟩;have n0_:=Xa.mk (Kd.Un (Kd.ra_ (HO792.out)) hb);have n1_:=Xa.mk (Kd.Yj ho0 (Xd (bl_ HB)));have n2_:=Xa.mk (Xe (bl_ HB) hb);clear HO792;clear HB;have HO792:=n0_;have HO795:=n1_;have HB:=n2_;clear n0_ n1_ n2_;(try clear hb);(try clear hb2);(try clear hk);(try clear hi);(try clear ho0))|((with_reducible refine Xl (f:=22) rfl ?_);refine Ym (some 17) rfl rfl Try.func22 (by kernel_rfl) rfl #[.slice Ao42 t790.length co42] rfl ga_ ?_;(with_reducible refine (Ug.calls k _ _ t790 t796 _ ?side1 ?side2 A5.out).mono ?_);(case side1=>repeat (first|exact (Kd.R_reads' HO792.out).2.2|(with_reducible refine Kd.Yb ?_ _)|(with_reducible refine Kd.Yc ?_ _)|(with_reducible refine Kd.Yk ?_)));(case side2=>exact (Kd.R_reads' HO792.out).2.1);rintro e w44 ⟨v797,rfl,ho0,hb⟩;refine ⟨_,rfl,?_⟩;have n0_:=Xa.mk (Kd.Un (Kd.ra_ (HO792.out)) hb);have n1_:=Xa.mk (Kd.R_elder' (Kd.ra_ (HO795.out)) (Kd.Zk ho0) hb);have n2_:=Xa.mk (Kd.Yj (Kd.R_new' ho0 (Kd.Uc (Kd.ra_ (HO795.out)))) (Xd (bl_ HB)));have n3_:=Xa.mk (Xe (bl_ HB) hb);clear HO792;clear HO795;clear HB;have HO792:=n0_;have HO795:=n1_;have HO798:=n2_;have HB:=n3_;clear n0_ n1_ n2_ n3_;(try clear hb);(try clear hb2);(try clear hk);(try clear hi);(try clear ho0);obtain ⟨Ao45,co45,eo45⟩:=Kd.Zd HO795.out;subst eo45;obtain ⟨Ao46,co46,eo46⟩:=Kd.Zd HO798.out;subst eo46)|((with_reducible refine Xl (f:=36) rfl ?_);refine Ym (some 18) rfl rfl Try.func36 (by kernel_rfl) rfl #[.slice Ao45 t793.length co45,.slice Ao46 t796.length co46] rfl ga_ ?_;(with_reducible refine (Zn.calls k _ _ t793 _ _ t796 true _ ?side1 ?side2 ?side3 ?side4 A6.out).mono ?_);(case side1=>repeat (first|exact (Kd.R_reads' HO795.out).2.2|(with_reducible refine Kd.Yb ?_ _)|(with_reducible refine Kd.Yc ?_ _)|(with_reducible refine Kd.Yk ?_)));(case side2=>exact (Kd.R_reads' HO795.out).2.1);(case side3=>repeat (first|exact (Kd.R_reads' HO798.out).2.2|(with_reducible refine Kd.Yb ?_ _)|(with_reducible refine Kd.Yc ?_ _)|(with_reducible refine Kd.Yk ?_)));(case side4=>exact (Kd.R_reads' HO798.out).2.1);rintro e w' ⟨rfl,⟨nd,rfl⟩⟩;refine ⟨_,rfl,?_⟩)|((with_reducible refine Xl (f:=37) rfl ?_);refine Ym (some 21) rfl rfl Try.func37 (by kernel_rfl) rfl #[.slice Ao42 t790.length co42] rfl ga_ ?_;(with_reducible refine (Ye.calls k _ _ t790 false _ ?side1 ?side2 A8.out).mono ?_);(case side1=>repeat (first|exact (Kd.R_reads' HO792.out).2.2|(with_reducible refine Kd.Yb ?_ _)|(with_reducible refine Kd.Yc ?_ _)|(with_reducible refine Kd.Yk ?_)));(case side2=>exact (Kd.R_reads' HO792.out).2.1);rintro e w47 ⟨rfl,hb⟩;refine ⟨_,rfl,?_⟩;have n0_:=Xa.mk (Kd.Un (Kd.ra_ (HO792.out)) hb);have n1_:=Xa.mk (Kd.Un (Kd.ra_ (HO795.out)) hb);have n2_:=Xa.mk (Kd.Un (Kd.ra_ (HO798.out)) hb);have n3_:=Xa.mk (Xe (bl_ HB) hb);clear HO792;clear HO795;clear HO798;clear HB;have HO792:=n0_;have HO795:=n1_;have HO798:=n2_;have HB:=n3_;clear n0_ n1_ n2_ n3_;(try clear hb);(try clear hb2);(try clear hk);(try clear hi)))
    go_ret
    exact ⟨rf_,bl_ HB⟩
  ·replace c7:=Bool.eq_false_iff.mpr c7;subst c7
   have H1:(some false)=some r:=by rw [if_neg (show ¬ (false=true) by decide)] at H;exact H
   clear H;have H:=H1;clear H1;obtain rfl:=Option.some.inj H
   go_enter Try.func12,Try.ntmps12
   go_wp2_with (first|((with_reducible refine Xl (f:=35) rfl ?_);refine Ym (some 12) rfl rfl Try.func35 (by kernel_rfl) rfl #[.slice A0 l0.length c0] rfl ga_ ?_;(with_reducible refine (Ud.calls k _ _ l0 t790 _ ?side1 ?side2 A3.out).mono ?_);(case side1=>repeat (first|exact HR0.out|(with_reducible refine Kd.Yb ?_ _)|(with_reducible refine Kd.Yc ?_ _)|(with_reducible refine Kd.Yk ?_)));(case side2=>exact HC0.out);rintro e w48 ⟨v791,rfl,ho0,hb⟩;refine ⟨_,rfl,?_⟩;have n0_:=Xa.mk (Kd.Yj ho0 (Xd (bl_ HB)));have n1_:=Xa.mk (Xe (bl_ HB) hb);clear HB;have HO792:=n0_;have HB:=n1_;clear n0_ n1_;(try clear hb);(try clear hb2);(try clear hk);(try clear hi);(try clear ho0);obtain ⟨Ao49,co49,eo49⟩:=Kd.Zd HO792.out;subst eo49)|((with_reducible refine Xl (f:=24) rfl ?_);refine Ym (some 14) rfl rfl Try.func24 (by kernel_rfl) rfl #[.slice Ao49 t790.length co49] rfl ga_ ?_;(with_reducible refine (Uq.calls k _ _ t790 t793 _ ?side1 ?side2 A4.out).mono ?_);(case side1=>repeat (first|exact (Kd.R_reads' HO792.out).2.2|(with_reducible refine Kd.Yb ?_ _)|(with_reducible refine Kd.Yc ?_ _)|(with_reducible refine Kd.Yk ?_)));(case side2=>exact (Kd.R_reads' HO792.out).2.1);rintro e w50 ⟨v794,rfl,ho0,hb⟩;refine ⟨_,rfl,?_⟩;have n0_:=Xa.mk (Kd.Un (Kd.ra_ (HO792.out)) hb);have n1_:=Xa.mk (Kd.Yj ho0 (Xd (bl_ HB)));have n2_:=Xa.mk (Xe (bl_ HB) hb);clear HO792;clear HB;have HO792:=n0_;have HO795:=n1_;have HB:=n2_;clear n0_ n1_ n2_;(try clear hb);(try clear hb2);(try clear hk);(try clear hi);(try clear ho0))|((with_reducible refine Xl (f:=22) rfl ?_);refine Ym (some 17) rfl rfl Try.func22 (by kernel_rfl) rfl #[.slice Ao49 t790.length co49] rfl ga_ ?_;(with_reducible refine (Ug.calls k _ _ t790 t796 _ ?side1 ?side2 A5.out).mono ?_);(case side1=>repeat (first|exact (Kd.R_reads' HO792.out).2.2|(with_reducible refine Kd.Yb ?_ _)|(with_reducible refine Kd.Yc ?_ _)|(with_reducible refine Kd.Yk ?_)));(case side2=>exact (Kd.R_reads' HO792.out).2.1);rintro e w51 ⟨v797,rfl,ho0,hb⟩;refine ⟨_,rfl,?_⟩;have n0_:=Xa.mk (Kd.Un (Kd.ra_ (HO792.out)) hb);have n1_:=Xa.mk (Kd.R_elder' (Kd.ra_ (HO795.out)) (Kd.Zk ho0) hb);have n2_:=Xa.mk (Kd.Yj (Kd.R_new' ho0 (Kd.Uc (Kd.ra_ (HO795.out)))) (Xd (bl_ HB)));have n3_:=Xa.mk (Xe (bl_ HB) hb);clear HO792;clear HO795;clear HB;have HO792:=n0_;have HO795:=n1_;have HO798:=n2_;have HB:=n3_;clear n0_ n1_ n2_ n3_;(try clear hb);(try clear hb2);(try clear hk);(try clear hi);(try clear ho0);obtain ⟨Ao52,co52,eo52⟩:=Kd.Zd HO795.out;subst eo52;obtain ⟨Ao53,co53,eo53⟩:=Kd.Zd HO798.out;subst eo53)|((with_reducible refine Xl (f:=36) rfl ?_);refine Ym (some 18) rfl rfl Try.func36 (by kernel_rfl) rfl #[.slice Ao52 t793.length co52,.slice Ao53 t796.length co53] rfl ga_ ?_;(with_reducible refine (Zn.calls k _ _ t793 _ _ t796 false _ ?side1 ?side2 ?side3 ?side4 A6.out).mono ?_);(case side1=>repeat (first|exact (Kd.R_reads' HO795.out).2.2|(with_reducible refine Kd.Yb ?_ _)|(with_reducible refine Kd.Yc ?_ _)|(with_reducible refine Kd.Yk ?_)));(case side2=>exact (Kd.R_reads' HO795.out).2.1);(case side3=>repeat (first|exact (Kd.R_reads' HO798.out).2.2|(with_reducible refine Kd.Yb ?_ _)|(with_reducible refine Kd.Yc ?_ _)|(with_reducible refine Kd.Yk ?_)));(case side4=>exact (Kd.R_reads' HO798.out).2.1);rintro e w' ⟨rfl,⟨nd,rfl⟩⟩;refine ⟨_,rfl,?_⟩))
   go_ret
   exact ⟨rf_,bl_ HB⟩
def Xf.Pure:Prop:=∀ (l0:List Int),l0.length≤maxLen→l0.length * 1≤140737488351232→(∀ x ∈ l0,(Lit.int .u8 x).wf=true)→∃ k,Xf.f k l0=some true
theorem Xf.walk (P:Xf.Pure) (a0:Option Addr) (len0 cap0:Nat) (z0:List Int) (w:World) (w0:(a0=none∧len0=0∧cap0=0∧z0=[])∨∃ x,a0=some x∧len0≤cap0∧cap0≤maxLen∧z0.length=cap0∧(∀ i,i<z0.length→w.cell? (x.add i)=some (.int .u8 (z0.getD i 0)))∧∀ n ∈ z0,(Lit.int .u8 n).wf=true) (y0:len0 * 1≤140737488351232) :
  Calls Try.prog 12 #[.slice a0 len0 cap0] w fun e w'=>e=.returned (.bool true)∧Below w.heap.size w w':=by
 obtain ⟨l0,rfl,hr0,hm0,hw0,hc0⟩:=Ve.ofRowC w0;obtain ⟨k,h⟩:=P l0 hm0 y0 hw0;refine (Xf.calls k _ _ l0 true w (Kd.C_of_reads (d:=(0:Int)) (h1:=fun _=>rfl) hr0) hc0 h).mono ?_
 rintro e w' ⟨rfl,hd⟩
 exact ⟨rfl,hd⟩
end Go.Proofs.Ytjmlpgpkmhjdiaa.GSlim
