import Derived.Test.YtdkcjecllbdljaaCFnSlimPlaces21
import Derived.Test.YtdkcjecllbdljaaCFnSlimPlaces31
import Derived.Test.YtdkcjecllbdljaaCFnSlimPlaces47
import Derived.Test.YtdkcjecllbdljaaCFnSlimPlaces53
import Derived.Test.YtdkcjecllbdljaaCFnSlimPlaces54
import Derived.Test.YtdkcjecllbdljaaCFnSlimPlaces55
namespace Go.Proofs.Ytdkcjecllbdljaa.GSlim
open Go.RowKit Go.Proofs.YtdkcjecllbdljaaW.PrintWords Go.Proofs.YtdkcjecllbdljaaW.PrintLast Go.Proofs.YtdkcjecllbdljaaW.PrintMore
attribute [local go_sem] Zq Zt Uh Ui Zi Zj Zr Zu
set_option linter.unusedVariables false
set_option linter.unusedSimpArgs false
mutual
def Xh.j0:Nat→List (S31)→List (S31)→List Bool→Bool→Option (Bool)
 |0,_,_,_,_=>none
 |k+1,x3,x4,x5,x29=>if x29=true then (some false) else (Xh.l0 k x3 x4 x5 0 0)
def Xh.l0:Nat→List (S31)→List (S31)→List Bool→Int→Int→Option (Bool)
 |0,_,_,_,_,_=>none
 |k+1,x3,x4,x5,x6,x7=>if x7<(x5.length:Int) then (if 0≤x7 then (if rdOf false x5 x7=true then (Xh.l0 k x3 x4 x5 (wrap64 (x6+1)) (wrap64 (x7+1))) else (if x7=(wrap64 ((x5.length:Int) - 1)) then (Xh.l0 k x3 x4 x5 (wrap64 (x6+1)) (wrap64 (x7+1))) else (Xh.l0 k x3 x4 x5 x6 (wrap64 (x7+1))))) else (none)) else (Xh.l1 k x3 x4 x6 0)
def Xh.l1:Nat→List (S31)→List (S31)→Int→Int→Option (Bool)
 |0,_,_,_,_=>none
 |k+1,x3,x4,x6,x8=>if x8<(x4.length:Int) then (if 0≤x8 then (if ((Xb x4 x8).f3) ≥ (x4.length:Int) then (if ((Xb x4 x8).f0)=7 then (some false) else (if ((Xb x4 x8).f0)=6 then (some false) else (Xh.l1 k x3 x4 x6 (wrap64 (x8+1))))) else (Xh.l1 k x3 x4 x6 (wrap64 (x8+1)))) else (none)) else (if (x4.length:Int)≤x6 then (some (decide ((x4.length:Int)≤(x3.length:Int)))) else (some false))
end
def Xh.f (k:Nat) (l0:List Int):Option (Bool):=if (l0.length:Int) > 1048576 then (some true) else ((spec_DrawSlimDead.f k l0).bind fun t603=>((Vw.f k t603).bind fun t606=>((Vh.f k t603).bind fun t609=>((Uk.f k t603).bind fun t612=>((Uz.f k t606 t612).bind fun t615=>(if t615=true then ((Uf.f k t603).bind fun t616=>((Zl.f k t609 t616).bind fun t619=>(Xh.j0 k t603 t606 t609 (!t619)))) else (Xh.j0 k t603 t606 t609 true)))))))
set_option maxHeartbeats 8000000 in
set_option maxRecDepth 100000 in
theorem Xh.calls (k:Nat) (A0:Option Addr) (c0:Nat) (l0:List Int) (r:Bool) (w:World) (hr0:Kd.C (Kd.int .u8) w A0 l0.length l0) (hc0:l0.length≤c0) (h:Xh.f k l0=some r) :
  Calls Try.prog 4 #[.slice A0 l0.length c0] w fun e w'=>e=.returned (.bool r)∧Below w.heap.size w w':=by
 have HR0:=Xa.mk hr0;have HC0:=Xa.mk hc0;clear hr0 hc0;have HB:=Xa.mk (Below.refl w.heap.size w);have H:(if (l0.length:Int) > 1048576 then (some true) else ((spec_DrawSlimDead.f k l0).bind fun t603=>((Vw.f k t603).bind fun t606=>((Vh.f k t603).bind fun t609=>((Uk.f k t603).bind fun t612=>((Uz.f k t606 t612).bind fun t615=>(if t615=true then ((Uf.f k t603).bind fun t616=>((Zl.f k t609 t616).bind fun t619=>(Xh.j0 k t603 t606 t609 (!t619)))) else (Xh.j0 k t603 t606 t609 true))))))))=some r:=h;clear h;by_cases c2:(l0.length:Int) > 1048576
 ·rw [if_pos c2] at H;have c2b0:decide (1048576<(l0.length:Int))=true:=decide_eq_true c2;have c2b1:decide (1048576<l0.length)=true:=decide_eq_true (by omega);clear c2;obtain rfl:=Option.some.inj H
  go_enter Try.func4,Try.ntmps4
  go_wp2
  go_ret
  exact ⟨rf_,bl_ HB⟩
 ·rw [if_neg c2] at H;have c2b0:decide (1048576<(l0.length:Int))=false:=decide_eq_false c2;have c2b1:decide (1048576<l0.length)=false:=decide_eq_false (by omega);clear c2;replace H:=Option.bind_eq_some_iff.mp H;obtain ⟨t603,A30,H⟩:=H;replace H:((Vw.f k t603).bind fun t606=>((Vh.f k t603).bind fun t609=>((Uk.f k t603).bind fun t612=>((Uz.f k t606 t612).bind fun t615=>(if t615=true then ((Uf.f k t603).bind fun t616=>((Zl.f k t609 t616).bind fun t619=>(Xh.j0 k t603 t606 t609 (!t619)))) else (Xh.j0 k t603 t606 t609 true))))))=some r:=H;have A3:=Xa.mk A30;clear A30;replace H:=Option.bind_eq_some_iff.mp H;obtain ⟨t606,A40,H⟩:=H;replace H:((Vh.f k t603).bind fun t609=>((Uk.f k t603).bind fun t612=>((Uz.f k t606 t612).bind fun t615=>(if t615=true then ((Uf.f k t603).bind fun t616=>((Zl.f k t609 t616).bind fun t619=>(Xh.j0 k t603 t606 t609 (!t619)))) else (Xh.j0 k t603 t606 t609 true)))))=some r:=H;have A4:=Xa.mk A40;clear A40;replace H:=Option.bind_eq_some_iff.mp H;obtain ⟨t609,A50,H⟩:=H;replace H:((Uk.f k t603).bind fun t612=>((Uz.f k t606 t612).bind fun t615=>(if t615=true then ((Uf.f k t603).bind fun t616=>((Zl.f k t609 t616).bind fun t619=>(Xh.j0 k t603 t606 t609 (!t619)))) else (Xh.j0 k t603 t606 t609 true))))=some r:=H;have A5:=Xa.mk A50;clear A50;have HC6:=Xa.mk H;clear H
  go_enter Try.func4,Try.ntmps4
  go_upto_region 6 with (first|((with_reducible refine Xi (f:=6) rfl ?_);refine Yl (some 13) rfl rfl Try.func6 (by kernel_rfl) rfl #[.slice A0 l0.length c0] rfl ga_ ?_;(with_reducible refine (spec_DrawSlimDead.calls k _ _ l0 t603 _ ?side1 ?side2 A3.out).mono ?_);(case side1=>repeat (first|exact HR0.out|(with_reducible refine Kd.Xx ?_ _)|(with_reducible refine Kd.Xy ?_ _)|(with_reducible refine Kd.Yf ?_)));(case side2=>exact HC0.out);rintro e w7 ⟨v604,rfl,ho0,hb⟩;refine ⟨_,rfl,?_⟩;have n0_:=Xa.mk (Kd.Yi ho0 (Xc (bl_ HB)));have n1_:=Xa.mk (Xd (bl_ HB) hb);clear HB;have HO605:=n0_;have HB:=n1_;clear n0_ n1_;(try clear hb);(try clear hb2);(try clear hk);(try clear hi);(try clear ho0);obtain ⟨Ao8,co8,eo8⟩:=Kd.Yx HO605.out;subst eo8)|((with_reducible refine Xi (f:=7) rfl ?_);refine Yl (some 15) rfl rfl Try.func7 (by kernel_rfl) rfl #[.slice Ao8 t603.length co8] rfl ga_ ?_;(with_reducible refine (Vw.calls k _ _ t603 t606 _ ?side1 ?side2 A4.out).mono ?_);(case side1=>repeat (first|exact (Kd.R_reads' HO605.out).2.2|(with_reducible refine Kd.Xx ?_ _)|(with_reducible refine Kd.Xy ?_ _)|(with_reducible refine Kd.Yf ?_)));(case side2=>exact (Kd.R_reads' HO605.out).2.1);rintro e w9 ⟨v607,rfl,ho0,hb⟩;refine ⟨_,rfl,?_⟩;have n0_:=Xa.mk (Kd.R_elder' (Kd.ra_ (HO605.out)) (Kd.Zk ho0) hb);have n1_:=Xa.mk (Kd.Yi (Kd.R_new' ho0 (Kd.Un (Kd.ra_ (HO605.out)))) (Xc (bl_ HB)));have n2_:=Xa.mk (Xd (bl_ HB) hb);clear HO605;clear HB;have HO605:=n0_;have HO608:=n1_;have HB:=n2_;clear n0_ n1_ n2_;(try clear hb);(try clear hb2);(try clear hk);(try clear hi);(try clear ho0))|((with_reducible refine Xi (f:=11) rfl ?_);refine Yl (some 17) rfl rfl Try.func11 (by kernel_rfl) rfl #[.slice Ao8 t603.length co8] rfl ga_ ?_;(with_reducible refine (Vh.calls k _ _ t603 t609 _ ?side1 ?side2 A5.out).mono ?_);(case side1=>repeat (first|exact (Kd.R_reads' HO605.out).2.2|(with_reducible refine Kd.Xx ?_ _)|(with_reducible refine Kd.Xy ?_ _)|(with_reducible refine Kd.Yf ?_)));(case side2=>exact (Kd.R_reads' HO605.out).2.1);rintro e w10 ⟨v610,rfl,ho0,hb⟩;refine ⟨_,rfl,?_⟩;have n0_:=Xa.mk (Kd.Vf (Kd.ra_ (HO605.out)) hb);have n1_:=Xa.mk (Kd.Vf (Kd.ra_ (HO608.out)) hb);have n2_:=Xa.mk (Kd.Yi ho0 (Xc (bl_ HB)));have n3_:=Xa.mk (Xd (bl_ HB) hb);clear HO605;clear HO608;clear HB;have HO605:=n0_;have HO608:=n1_;have HO611:=n2_;have HB:=n3_;clear n0_ n1_ n2_ n3_;(try clear hb);(try clear hb2);(try clear hk);(try clear hi);(try clear ho0)))
  (try simp only [Act.put,List.setIfInBounds_toArray,List.set_cons_zero,List.set_cons_succ])
  go_cut [29] (fun v29 wc=>∃ (kq:Nat) (x29_5:Bool),v29=.bool x29_5∧Xa (Xh.j0 kq t603 t606 t609 x29_5=some r)∧Xa (kq≤k)∧Xa (Kd.R k31 31 wc w.heap.size (fun k_=>some k_≠(v607:Value).ownBlock) (.slice Ao8 t603.length co8) t603)∧Xa (Kd.R k31 31 wc w.heap.size (fun k_=>some k_≠((.slice Ao8 t603.length co8):Value).ownBlock) v607 t606)∧Xa (Kd.R Kd.bool 4 wc w.heap.size (fun _=>True) v610 t609)∧Xa (Below w.heap.size w wc))
  case first=>
   have H:=HC6.out;clear HC6;replace H:=Option.bind_eq_some_iff.mp H;obtain ⟨t612,A110,H⟩:=H;replace H:((Uz.f k t606 t612).bind fun t615=>(if t615=true then ((Uf.f k t603).bind fun t616=>((Zl.f k t609 t616).bind fun t619=>(Xh.j0 k t603 t606 t609 (!t619)))) else (Xh.j0 k t603 t606 t609 true)))=some r:=H;have A11:=Xa.mk A110;clear A110;replace H:=Option.bind_eq_some_iff.mp H;obtain ⟨t615,A120,H⟩:=H;replace H:(if t615=true then ((Uf.f k t603).bind fun t616=>((Zl.f k t609 t616).bind fun t619=>(Xh.j0 k t603 t606 t609 (!t619)))) else (Xh.j0 k t603 t606 t609 true))=some r:=H;have A12:=Xa.mk A120;clear A120;by_cases c13:t615=true
   ·subst c13
    have H1:((Uf.f k t603).bind fun t616=>((Zl.f k t609 t616).bind fun t619=>(Xh.j0 k t603 t606 t609 (!t619))))=some r:=by rw [if_pos rfl] at H;exact H
    clear H;have H:=H1;clear H1;replace H:=Option.bind_eq_some_iff.mp H;obtain ⟨t616,A140,H⟩:=H;replace H:((Zl.f k t609 t616).bind fun t619=>(Xh.j0 k t603 t606 t609 (!t619)))=some r:=H;have A14:=Xa.mk A140;clear A140;replace H:=Option.bind_eq_some_iff.mp H;obtain ⟨t619,A150,H⟩:=H;replace H:(Xh.j0 k t603 t606 t609 (!t619))=some r:=H;have A15:=Xa.mk A150;clear A150;have H':=Xa.mk H;clear H;go_wp2_with (first|((with_reducible refine Xi (f:=9) rfl ?_);refine Yl (some 20) rfl rfl Try.func9 (by kernel_rfl) rfl #[.slice Ao8 t603.length co8] rfl ga_ ?_;(with_reducible refine (Uk.calls k _ _ t603 t612 _ ?side1 ?side2 A11.out).mono ?_);(case side1=>repeat (first|exact (Kd.R_reads' HO605.out).2.2|(with_reducible refine Kd.Xx ?_ _)|(with_reducible refine Kd.Xy ?_ _)|(with_reducible refine Kd.Yf ?_)));(case side2=>exact (Kd.R_reads' HO605.out).2.1);rintro e w16 ⟨v613,rfl,ho0,hb⟩;refine ⟨_,rfl,?_⟩;have n0_:=Xa.mk (Kd.R_elder' (Kd.ra_ (HO605.out)) (Kd.Zk ho0) hb);have n1_:=Xa.mk (Kd.R_elder' (Kd.ra_ (HO608.out)) (Kd.Zk ho0) hb);have n2_:=Xa.mk (Kd.Vf (Kd.ra_ (HO611.out)) hb);have n3_:=Xa.mk (Kd.Yi (Kd.R_new' (Kd.R_new' ho0 (Kd.Un (Kd.ra_ (HO605.out)))) (Kd.Un (Kd.ra_ (HO608.out)))) (Xc (bl_ HB)));have n4_:=Xa.mk (Xd (bl_ HB) hb);clear HO605;clear HO608;clear HO611;clear HB;have HO605:=n0_;have HO608:=n1_;have HO611:=n2_;have HO614:=n3_;have HB:=n4_;clear n0_ n1_ n2_ n3_ n4_;(try clear hb);(try clear hb2);(try clear hk);(try clear hi);(try clear ho0);obtain ⟨Ao17,co17,eo17⟩:=Kd.Yx HO608.out;subst eo17;obtain ⟨Ao18,co18,eo18⟩:=Kd.Yx HO614.out;subst eo18)|((with_reducible refine Xi (f:=8) rfl ?_);refine Yl (some 21) rfl rfl Try.func8 (by kernel_rfl) rfl #[.slice Ao17 t606.length co17,.slice Ao18 t612.length co18] rfl ga_ ?_;(with_reducible refine (Uz.calls k _ _ t606 _ _ t612 true _ ?side1 ?side2 ?side3 ?side4 A12.out).mono ?_);(case side1=>repeat (first|exact (Kd.R_reads' HO608.out).2.2|(with_reducible refine Kd.Xx ?_ _)|(with_reducible refine Kd.Xy ?_ _)|(with_reducible refine Kd.Yf ?_)));(case side2=>exact (Kd.R_reads' HO608.out).2.1);(case side3=>repeat (first|exact (Kd.R_reads' HO614.out).2.2|(with_reducible refine Kd.Xx ?_ _)|(with_reducible refine Kd.Xy ?_ _)|(with_reducible refine Kd.Yf ?_)));(case side4=>exact (Kd.R_reads' HO614.out).2.1);rintro e w' ⟨rfl,⟨nd,rfl⟩⟩;refine ⟨_,rfl,?_⟩)|(go_at_call 14;(with_reducible refine (Uf.calls k _ _ t603 t616 _ ?side1 ?side2 A14.out).mono ?_);(case side1=>repeat (first|exact (Kd.R_reads' HO605.out).2.2|(with_reducible refine Kd.Xx ?_ _)|(with_reducible refine Kd.Xy ?_ _)|(with_reducible refine Kd.Yf ?_)));(case side2=>exact (Kd.R_reads' HO605.out).2.1);rintro e w19 ⟨v617,rfl,ho0,hb⟩;have n0_:=Xa.mk (Kd.Vf (Kd.ra_ (HO605.out)) hb);have n1_:=Xa.mk (Kd.Vf (Kd.ra_ (HO608.out)) hb);have n2_:=Xa.mk (Kd.R_elder' (Kd.ra_ (HO611.out)) (Kd.Zk ho0) hb);have n3_:=Xa.mk (Kd.Vf (Kd.ra_ (HO614.out)) hb);have n4_:=Xa.mk (Kd.Yi (Kd.R_new' ho0 (Kd.Un (Kd.ra_ (HO611.out)))) (Xc (bl_ HB)));have n5_:=Xa.mk (Xd (bl_ HB) hb);clear HO605;clear HO608;clear HO611;clear HO614;clear HB;have HO605:=n0_;have HO608:=n1_;have HO611:=n2_;have HO614:=n3_;have HO618:=n4_;have HB:=n5_;clear n0_ n1_ n2_ n3_ n4_ n5_;(try clear hb);(try clear hb2);(try clear hk);(try clear hi);(try clear ho0);obtain ⟨Ao20,co20,eo20⟩:=Kd.Yx HO611.out;subst eo20;obtain ⟨Ao21,co21,eo21⟩:=Kd.Yx HO618.out;subst eo21)|(go_at_call 13;(with_reducible refine (Zl.calls k _ _ t609 _ _ t616 t619 _ ?side1 ?side2 ?side3 ?side4 A15.out).mono ?_);(case side1=>repeat (first|exact (Kd.R_reads' HO611.out).2.2|(with_reducible refine Kd.Xx ?_ _)|(with_reducible refine Kd.Xy ?_ _)|(with_reducible refine Kd.Yf ?_)));(case side2=>exact (Kd.R_reads' HO611.out).2.1);(case side3=>repeat (first|exact (Kd.R_reads' HO618.out).2.2|(with_reducible refine Kd.Xx ?_ _)|(with_reducible refine Kd.Xy ?_ _)|(with_reducible refine Kd.Yf ?_)));(case side4=>exact (Kd.R_reads' HO618.out).2.1);rintro e w' ⟨rfl,⟨nd,rfl⟩⟩))
    go_meet
    case rel=>exact ⟨_,(!t619),(by first|rfl|(simp;done)|(simp [*];done)),H',⟨by first|omega|exact Nat.le_refl _⟩,⟨Kd.ra_ (Kd.Xo HO605.out (fun _ hk=>hk.1.2))⟩,⟨Kd.ra_ (Kd.Xo HO608.out (fun _ hk=>hk.1.2))⟩,⟨Kd.ra_ (Kd.Xo HO611.out (fun _ hk=>trivial))⟩,⟨bl_ HB⟩⟩
   ·replace c13:=Bool.eq_false_iff.mpr c13;subst c13
    have H1:(Xh.j0 k t603 t606 t609 true)=some r:=by rw [if_neg (show ¬ (false=true) by decide)] at H;exact H
    clear H;have H:=H1;clear H1;have H':=Xa.mk H;clear H;go_wp2_with (first|((with_reducible refine Xi (f:=9) rfl ?_);refine Yl (some 20) rfl rfl Try.func9 (by kernel_rfl) rfl #[.slice Ao8 t603.length co8] rfl ga_ ?_;(with_reducible refine (Uk.calls k _ _ t603 t612 _ ?side1 ?side2 A11.out).mono ?_);(case side1=>repeat (first|exact (Kd.R_reads' HO605.out).2.2|(with_reducible refine Kd.Xx ?_ _)|(with_reducible refine Kd.Xy ?_ _)|(with_reducible refine Kd.Yf ?_)));(case side2=>exact (Kd.R_reads' HO605.out).2.1);rintro e w22 ⟨v613,rfl,ho0,hb⟩;refine ⟨_,rfl,?_⟩;have n0_:=Xa.mk (Kd.R_elder' (Kd.ra_ (HO605.out)) (Kd.Zk ho0) hb);have n1_:=Xa.mk (Kd.R_elder' (Kd.ra_ (HO608.out)) (Kd.Zk ho0) hb);have n2_:=Xa.mk (Kd.Vf (Kd.ra_ (HO611.out)) hb);have n3_:=Xa.mk (Kd.Yi (Kd.R_new' (Kd.R_new' ho0 (Kd.Un (Kd.ra_ (HO605.out)))) (Kd.Un (Kd.ra_ (HO608.out)))) (Xc (bl_ HB)));have n4_:=Xa.mk (Xd (bl_ HB) hb);clear HO605;clear HO608;clear HO611;clear HB;have HO605:=n0_;have HO608:=n1_;have HO611:=n2_;have HO614:=n3_;have HB:=n4_;clear n0_ n1_ n2_ n3_ n4_;(try clear hb);(try clear hb2);(try clear hk);(try clear hi);(try clear ho0);obtain ⟨Ao23,co23,eo23⟩:=Kd.Yx HO608.out;subst eo23;obtain ⟨Ao24,co24,eo24⟩:=Kd.Yx HO614.out;subst eo24)|((with_reducible refine Xi (f:=8) rfl ?_);refine Yl (some 21) rfl rfl Try.func8 (by kernel_rfl) rfl #[.slice Ao23 t606.length co23,.slice Ao24 t612.length co24] rfl ga_ ?_;(with_reducible refine (Uz.calls k _ _ t606 _ _ t612 false _ ?side1 ?side2 ?side3 ?side4 A12.out).mono ?_);(case side1=>repeat (first|exact (Kd.R_reads' HO608.out).2.2|(with_reducible refine Kd.Xx ?_ _)|(with_reducible refine Kd.Xy ?_ _)|(with_reducible refine Kd.Yf ?_)));(case side2=>exact (Kd.R_reads' HO608.out).2.1);(case side3=>repeat (first|exact (Kd.R_reads' HO614.out).2.2|(with_reducible refine Kd.Xx ?_ _)|(with_reducible refine Kd.Xy ?_ _)|(with_reducible refine Kd.Yf ?_)));(case side4=>exact (Kd.R_reads' HO614.out).2.1);rintro e w' ⟨rfl,⟨nd,rfl⟩⟩;refine ⟨_,rfl,?_⟩))
    go_meet
    case rel=>exact ⟨_,(true),(by first|rfl|(simp;done)|(simp [*];done)),H',⟨by first|omega|exact Nat.le_refl _⟩,⟨Kd.ra_ (Kd.Xo HO605.out (fun _ hk=>hk.1.2))⟩,⟨Kd.ra_ (Kd.Xo HO608.out (fun _ hk=>hk.1.2))⟩,⟨Kd.ra_ (HO611.out)⟩,⟨bl_ HB⟩⟩
  case rest=>
   clear HC6
   try clear c1
   try clear c2
   try clear c2b0
   try clear c2b1
   try clear p2
   try clear c4
   try clear c6
   try clear c7
   try clear c8
   try clear c9
   try clear c11
   try clear c13
   obtain ⟨kq,x29_5,rfl,HA,HJ5,HO_3,HO_4,HO_5,HB⟩:=hcut
   cases kq with
   |zero=>exact absurd HA.out (by simp [Xh.j0])
   |succ kj5=>
    have H:=HA.out;clear HA;simp only [Xh.j0] at H;by_cases c25:x29_5=true
    ·subst c25
     have H1:(some false)=some r:=by rw [if_pos rfl] at H;exact H
     clear H;have H:=H1;clear H1;obtain rfl:=Option.some.inj H;go_wp2
     go_ret
     exact ⟨rf_,bl_ HB⟩
    ·replace c25:=Bool.eq_false_iff.mpr c25;subst c25
     have H1:(Xh.l0 kj5 t603 t606 t609 0 0)=some r:=by rw [if_neg (show ¬ (false=true) by decide)] at H;exact H
     clear H;have H:=H1;clear H1;have H':=Xa.mk H;clear H;go_wp2
     go_loopg [6,7] kj5 (fun kq v6 v7 w'=>∃ (x6_2:Int) (x7_2:Int),v6=.int .i64 x6_2∧v7=.int .i64 x7_2∧Xa (Xh.l0 kq t603 t606 t609 x6_2 x7_2=some r)∧Xa (kq≤kj5)∧Xa (Kd.R k31 31 w' w.heap.size (fun k_=>some k_≠(v607:Value).ownBlock) (.slice Ao8 t603.length co8) t603)∧Xa (Kd.R k31 31 w' w.heap.size (fun k_=>some k_≠((.slice Ao8 t603.length co8):Value).ownBlock) v607 t606)∧Xa (Kd.R Kd.bool 4 w' w.heap.size (fun _=>True) v610 t609)∧Xa (Below w.heap.size w w'))
     case atStart=>exact ⟨(0),(0),(by first|rfl|(simp;done)|(simp [*];done)),(by first|rfl|(simp;done)|(simp [*];done)),H',⟨Nat.le_refl _⟩,⟨Kd.ra_ (HO_3.out)⟩,⟨Kd.ra_ (HO_4.out)⟩,⟨Kd.ra_ (HO_5.out)⟩,⟨bl_ HB⟩⟩
     case round=>
      clear H'
      try clear c1
      try clear c2
      try clear c2b0
      try clear c2b1
      try clear p2
      try clear c4
      try clear c6
      try clear c7
      try clear c8
      try clear c9
      try clear c11
      try clear c13
      try clear c25
      try clear p2
      obtain ⟨x6_2,x7_2,rfl,rfl,HA,HK2,HO_3,HO_4,HO_5,HB⟩:=hrel
      cases gk with
      |zero=>exact absurd HA.out (by simp [Xh.l0])
      |succ k2=>
       have H:=HA.out;clear HA;simp only [Xh.l0] at H;by_cases c26:x7_2<(t609.length:Int)
       ·rw [if_pos c26] at H;have c26b0:decide (x7_2<(t609.length:Int))=true:=decide_eq_true c26;clear c26;by_cases c27:0≤x7_2
        ·rw [if_pos c27] at H;have c27b0:decide (0≤x7_2)=true:=decide_eq_true c27;clear c27;obtain ⟨bq28,hbq28⟩:∃ b_:Bool,b_=(rdOf false t609 x7_2):=⟨_,rfl⟩
         replace H:(if bq28=true then (Xh.l0 k2 t603 t606 t609 (wrap64 (x6_2+1)) (wrap64 (x7_2+1))) else (if x7_2=(wrap64 ((t609.length:Int) - 1)) then (Xh.l0 k2 t603 t606 t609 (wrap64 (x6_2+1)) (wrap64 (x7_2+1))) else (Xh.l0 k2 t603 t606 t609 x6_2 (wrap64 (x7_2+1)))))=some r:=by rw [← hbq28] at H;exact H
         have Nbq28:=Xa.mk hbq28;clear hbq28;by_cases c29:bq28=true
         ·subst c29
          have H1:(Xh.l0 k2 t603 t606 t609 (wrap64 (x6_2+1)) (wrap64 (x7_2+1)))=some r:=by rw [if_pos rfl] at H;exact H
          clear H;have H:=H1;clear H1;have H':=Xa.mk H;clear H;obtain ⟨Ao30,co30,eo30⟩:=Kd.Yx HO_5.out;subst eo30;have p620:0≤(x7_2:Int):=of_decide_eq_true (by first|(with_reducible assumption)|assumption);have q620:x7_2<(t609.length:Int):=of_decide_eq_true (by first|(with_reducible assumption)|assumption);obtain ⟨ad620,e620,hx620_0⟩:=Kd.at_bool (Kd.R_reads' HO_5.out).2.2 x7_2 p620 q620
          (try rw [← Nbq28.out] at hx620_0)
          cases e620
          replace p620:=eq_true p620;replace q620:=eq_true q620;go_wp2
          go_roundg k2
          case measure=>have:=HJ5.out;have:=HK2.out;omega
          case rel=>exact ⟨(wrap64 (x6_2+1)),(wrap64 (x7_2+1)),(by first|rfl|(simp;done)|(simp [*];done)),(by first|rfl|(simp;done)|(simp [*];done)),H',⟨by have:=HJ5.out;have:=HK2.out;omega⟩,⟨Kd.ra_ (HO_3.out)⟩,⟨Kd.ra_ (HO_4.out)⟩,⟨Kd.ra_ (HO_5.out)⟩,⟨bl_ HB⟩⟩
         ·replace c29:=Bool.eq_false_iff.mpr c29;subst c29
          have H1:(if x7_2=(wrap64 ((t609.length:Int) - 1)) then (Xh.l0 k2 t603 t606 t609 (wrap64 (x6_2+1)) (wrap64 (x7_2+1))) else (Xh.l0 k2 t603 t606 t609 x6_2 (wrap64 (x7_2+1))))=some r:=by rw [if_neg (show ¬ (false=true) by decide)] at H;exact H
          clear H;have H:=H1;clear H1;by_cases c31:x7_2=(wrap64 ((t609.length:Int) - 1))
          ·rw [if_pos c31] at H;have c31b0:(x7_2 == (wrap64 ((t609.length:Int) - 1)))=true:=beq_iff_eq.mpr c31;have c31b1:(x7_2 != (wrap64 ((t609.length:Int) - 1)))=false:=bne_eq_false_iff_eq.mpr c31;clear c31;have H':=Xa.mk H;clear H;obtain ⟨Ao32,co32,eo32⟩:=Kd.Yx HO_5.out;subst eo32;have p620:0≤(x7_2:Int):=of_decide_eq_true (by first|(with_reducible assumption)|assumption);have q620:x7_2<(t609.length:Int):=of_decide_eq_true (by first|(with_reducible assumption)|assumption);obtain ⟨ad620,e620,hx620_0⟩:=Kd.at_bool (Kd.R_reads' HO_5.out).2.2 x7_2 p620 q620
           (try rw [← Nbq28.out] at hx620_0)
           cases e620
           replace p620:=eq_true p620;replace q620:=eq_true q620;go_wp2
           go_roundg k2
           case measure=>have:=HJ5.out;have:=HK2.out;omega
           case rel=>exact ⟨(wrap64 (x6_2+1)),(wrap64 (x7_2+1)),(by first|rfl|(simp;done)|(simp [*];done)),(by first|rfl|(simp;done)|(simp [*];done)),H',⟨by have:=HJ5.out;have:=HK2.out;omega⟩,⟨Kd.ra_ (HO_3.out)⟩,⟨Kd.ra_ (HO_4.out)⟩,⟨Kd.ra_ (HO_5.out)⟩,⟨bl_ HB⟩⟩
          ·rw [if_neg c31] at H;have c31b0:(x7_2 == (wrap64 ((t609.length:Int) - 1)))=false:=beq_eq_false_iff_ne.mpr c31;have c31b1:(x7_2 != (wrap64 ((t609.length:Int) - 1)))=true:=bne_iff_ne.mpr c31;have H':=Xa.mk H;clear H;obtain ⟨Ao33,co33,eo33⟩:=Kd.Yx HO_5.out;subst eo33;have p620:0≤(x7_2:Int):=of_decide_eq_true (by first|(with_reducible assumption)|assumption);have q620:x7_2<(t609.length:Int):=of_decide_eq_true (by first|(with_reducible assumption)|assumption);obtain ⟨ad620,e620,hx620_0⟩:=Kd.at_bool (Kd.R_reads' HO_5.out).2.2 x7_2 p620 q620
           (try rw [← Nbq28.out] at hx620_0)
           cases e620
           replace p620:=eq_true p620;replace q620:=eq_true q620;go_wp2
           go_roundg k2
           case measure=>have:=HJ5.out;have:=HK2.out;omega
           case rel=>exact ⟨(x6_2),(wrap64 (x7_2+1)),(by first|rfl|(simp;done)|(simp [*];done)),(by first|rfl|(simp;done)|(simp [*];done)),H',⟨by have:=HJ5.out;have:=HK2.out;omega⟩,⟨Kd.ra_ (HO_3.out)⟩,⟨Kd.ra_ (HO_4.out)⟩,⟨Kd.ra_ (HO_5.out)⟩,⟨bl_ HB⟩⟩
        ·rw [if_neg c27] at H;exact absurd H (by simp)
       ·rw [if_neg c26] at H;have c26b0:decide (x7_2<(t609.length:Int))=false:=decide_eq_false c26;clear c26;have H':=Xa.mk H;clear H;obtain ⟨Ao34,co34,eo34⟩:=Kd.Yx HO_5.out;subst eo34;go_wp2
        go_loopg [8] k2 (fun kq v8 w'=>∃ (x8_3:Int),v8=.int .i64 x8_3∧Xa (Xh.l1 kq t603 t606 x6_2 x8_3=some r)∧Xa (kq≤k2)∧Xa (Kd.R k31 31 w' w.heap.size (fun k_=>some k_≠(v607:Value).ownBlock) (.slice Ao8 t603.length co8) t603)∧Xa (Kd.R k31 31 w' w.heap.size (fun k_=>some k_≠((.slice Ao8 t603.length co8):Value).ownBlock) v607 t606)∧Xa (Below w.heap.size w w'))
        case atStart=>exact ⟨(0),(by first|rfl|(simp;done)|(simp [*];done)),H',⟨Nat.le_refl _⟩,⟨Kd.ra_ (HO_3.out)⟩,⟨Kd.ra_ (HO_4.out)⟩,⟨bl_ HB⟩⟩
        case round=>
         clear H'
         try clear c1
         try clear c2
         try clear c2b0
         try clear c2b1
         try clear p2
         try clear q2
         try clear c3
         try clear c4
         try clear c6
         try clear p6
         try clear q6
         try clear hx6
         try clear c7
         try clear c8
         try clear c9
         try clear c11
         try clear c13
         try clear c25
         try clear c26
         try clear c26b0
         try clear c27
         try clear c27b0
         try clear q28
         try clear c29
         try clear c31
         try clear c31b0
         try clear c31b1
         try clear hx620_0
         try clear p2
         try clear p620
         try clear q620
         obtain ⟨x8_3,rfl,HA,HK3,HO_3,HO_4,HB⟩:=hrel
         cases gk with
         |zero=>exact absurd HA.out (by simp [Xh.l1])
         |succ k3=>
          have H:=HA.out;clear HA;simp only [Xh.l1] at H;by_cases c35:x8_3<(t606.length:Int)
          ·rw [if_pos c35] at H;have c35b0:decide (x8_3<(t606.length:Int))=true:=decide_eq_true c35;clear c35;by_cases c36:0≤x8_3
           ·rw [if_pos c36] at H;have c36b0:decide (0≤x8_3)=true:=decide_eq_true c36;clear c36;by_cases c37:((Xb t606 x8_3).f3) ≥ (t606.length:Int)
            ·rw [if_pos c37] at H;have c37b0:decide ((t606.length:Int)≤((Xb t606 x8_3).f3))=true:=decide_eq_true c37;clear c37;by_cases c38:((Xb t606 x8_3).f0)=7
             ·rw [if_pos c38] at H;have c38b0:(((Xb t606 x8_3).f0) == 7)=true:=beq_iff_eq.mpr c38;have c38b1:(((Xb t606 x8_3).f0) != 7)=false:=bne_eq_false_iff_eq.mpr c38;clear c38;obtain rfl:=Option.some.inj H;obtain ⟨Ao39,co39,eo39⟩:=Kd.Yx HO_4.out;subst eo39;have p621:0≤(x8_3:Int):=of_decide_eq_true (by first|(with_reducible assumption)|assumption);have q621:x8_3<(t606.length:Int):=of_decide_eq_true (by first|(with_reducible assumption)|assumption);obtain ⟨ad621,e621,hx621_0,hx621_1,hx621_2,hx621_3⟩:=Uj (Kd.R_reads' HO_4.out).2.2 x8_3 p621 q621;cases e621
              replace p621:=eq_true p621;replace q621:=eq_true q621;have p622:0≤(x8_3:Int):=of_decide_eq_true (by first|(with_reducible assumption)|assumption);have q622:x8_3<(t606.length:Int):=of_decide_eq_true (by first|(with_reducible assumption)|assumption);obtain ⟨ad622,e622,hx622_0,hx622_1,hx622_2,hx622_3⟩:=Uj (Kd.R_reads' HO_4.out).2.2 x8_3 p622 q622;obtain rfl:ad621=ad622:=(by injection e622);replace p622:=eq_true p622;replace q622:=eq_true q622;go_wp2
              go_ret
              exact ⟨rf_,bl_ HB⟩
             ·rw [if_neg c38] at H;have c38b0:(((Xb t606 x8_3).f0) == 7)=false:=beq_eq_false_iff_ne.mpr c38;have c38b1:(((Xb t606 x8_3).f0) != 7)=true:=bne_iff_ne.mpr c38;by_cases c40:((Xb t606 x8_3).f0)=6
              ·rw [if_pos c40] at H;have c40b0:(((Xb t606 x8_3).f0) == 6)=true:=beq_iff_eq.mpr c40;have c40b1:(((Xb t606 x8_3).f0) != 6)=false:=bne_eq_false_iff_eq.mpr c40;clear c40;obtain rfl:=Option.some.inj H;obtain ⟨Ao41,co41,eo41⟩:=Kd.Yx HO_4.out;subst eo41;have p621:0≤(x8_3:Int):=of_decide_eq_true (by first|(with_reducible assumption)|assumption);have q621:x8_3<(t606.length:Int):=of_decide_eq_true (by first|(with_reducible assumption)|assumption);obtain ⟨ad621,e621,hx621_0,hx621_1,hx621_2,hx621_3⟩:=Uj (Kd.R_reads' HO_4.out).2.2 x8_3 p621 q621;cases e621
               replace p621:=eq_true p621;replace q621:=eq_true q621;have p622:0≤(x8_3:Int):=of_decide_eq_true (by first|(with_reducible assumption)|assumption);have q622:x8_3<(t606.length:Int):=of_decide_eq_true (by first|(with_reducible assumption)|assumption);obtain ⟨ad622,e622,hx622_0,hx622_1,hx622_2,hx622_3⟩:=Uj (Kd.R_reads' HO_4.out).2.2 x8_3 p622 q622;obtain rfl:ad621=ad622:=(by injection e622);replace p622:=eq_true p622;replace q622:=eq_true q622;have p623:0≤(x8_3:Int):=of_decide_eq_true (by first|(with_reducible assumption)|assumption);have q623:x8_3<(t606.length:Int):=of_decide_eq_true (by first|(with_reducible assumption)|assumption);obtain ⟨ad623,e623,hx623_0,hx623_1,hx623_2,hx623_3⟩:=Uj (Kd.R_reads' HO_4.out).2.2 x8_3 p623 q623;obtain rfl:ad621=ad623:=(by injection e623);replace p623:=eq_true p623;replace q623:=eq_true q623;go_wp2
               go_ret
               exact ⟨rf_,bl_ HB⟩
              ·rw [if_neg c40] at H;have c40b0:(((Xb t606 x8_3).f0) == 6)=false:=beq_eq_false_iff_ne.mpr c40;have c40b1:(((Xb t606 x8_3).f0) != 6)=true:=bne_iff_ne.mpr c40;have H':=Xa.mk H;clear H;obtain ⟨Ao42,co42,eo42⟩:=Kd.Yx HO_4.out;subst eo42;have p621:0≤(x8_3:Int):=of_decide_eq_true (by first|(with_reducible assumption)|assumption);have q621:x8_3<(t606.length:Int):=of_decide_eq_true (by first|(with_reducible assumption)|assumption);obtain ⟨ad621,e621,hx621_0,hx621_1,hx621_2,hx621_3⟩:=Uj (Kd.R_reads' HO_4.out).2.2 x8_3 p621 q621;cases e621
               replace p621:=eq_true p621;replace q621:=eq_true q621;have p622:0≤(x8_3:Int):=of_decide_eq_true (by first|(with_reducible assumption)|assumption);have q622:x8_3<(t606.length:Int):=of_decide_eq_true (by first|(with_reducible assumption)|assumption);obtain ⟨ad622,e622,hx622_0,hx622_1,hx622_2,hx622_3⟩:=Uj (Kd.R_reads' HO_4.out).2.2 x8_3 p622 q622;obtain rfl:ad621=ad622:=(by injection e622);replace p622:=eq_true p622;replace q622:=eq_true q622;have p623:0≤(x8_3:Int):=of_decide_eq_true (by first|(with_reducible assumption)|assumption);have q623:x8_3<(t606.length:Int):=of_decide_eq_true (by first|(with_reducible assumption)|assumption);obtain ⟨ad623,e623,hx623_0,hx623_1,hx623_2,hx623_3⟩:=Uj (Kd.R_reads' HO_4.out).2.2 x8_3 p623 q623;obtain rfl:ad621=ad623:=(by injection e623);replace p623:=eq_true p623;replace q623:=eq_true q623;go_wp2
               go_roundg k3
               case measure=>have:=HJ5.out;have:=HK2.out;have:=HK3.out;omega
               case rel=>exact ⟨(wrap64 (x8_3+1)),(by first|rfl|(simp;done)|(simp [*];done)),H',⟨by have:=HJ5.out;have:=HK2.out;have:=HK3.out;omega⟩,⟨Kd.ra_ (HO_3.out)⟩,⟨Kd.ra_ (HO_4.out)⟩,⟨bl_ HB⟩⟩
            ·rw [if_neg c37] at H;have c37b0:decide ((t606.length:Int)≤((Xb t606 x8_3).f3))=false:=decide_eq_false c37;clear c37;have H':=Xa.mk H;clear H;obtain ⟨Ao43,co43,eo43⟩:=Kd.Yx HO_4.out;subst eo43;have p621:0≤(x8_3:Int):=of_decide_eq_true (by first|(with_reducible assumption)|assumption);have q621:x8_3<(t606.length:Int):=of_decide_eq_true (by first|(with_reducible assumption)|assumption);obtain ⟨ad621,e621,hx621_0,hx621_1,hx621_2,hx621_3⟩:=Uj (Kd.R_reads' HO_4.out).2.2 x8_3 p621 q621;cases e621
             replace p621:=eq_true p621;replace q621:=eq_true q621;go_wp2
             go_roundg k3
             case measure=>have:=HJ5.out;have:=HK2.out;have:=HK3.out;omega
             case rel=>exact ⟨(wrap64 (x8_3+1)),(by first|rfl|(simp;done)|(simp [*];done)),H',⟨by have:=HJ5.out;have:=HK2.out;have:=HK3.out;omega⟩,⟨Kd.ra_ (HO_3.out)⟩,⟨Kd.ra_ (HO_4.out)⟩,⟨bl_ HB⟩⟩
           ·rw [if_neg c36] at H;exact absurd H (by simp)
          ·rw [if_neg c35] at H;have c35b0:decide (x8_3<(t606.length:Int))=false:=decide_eq_false c35;clear c35;by_cases c44:(t606.length:Int)≤x6_2
           ·rw [if_pos c44] at H;have c44b0:decide ((t606.length:Int)≤x6_2)=true:=decide_eq_true c44;clear c44;obtain rfl:=Option.some.inj H;obtain ⟨Ao45,co45,eo45⟩:=Kd.Yx HO_4.out;subst eo45;go_wp2
            go_ret
            exact ⟨rf_,bl_ HB⟩
           ·rw [if_neg c44] at H;have c44b0:decide ((t606.length:Int)≤x6_2)=false:=decide_eq_false c44;clear c44;obtain rfl:=Option.some.inj H;obtain ⟨Ao46,co46,eo46⟩:=Kd.Yx HO_4.out;subst eo46;go_wp2
            go_ret
            exact ⟨rf_,bl_ HB⟩
def Xh.Pure:Prop:=∀ (l0:List Int),l0.length≤maxLen→l0.length * 1≤140737488351232→(∀ x ∈ l0,(Lit.int .u8 x).wf=true)→∃ k,Xh.f k l0=some true
theorem Xh.walk (P:Xh.Pure) (a0:Option Addr) (len0 cap0:Nat) (z0:List Int) (w:World) (w0:(a0=none∧len0=0∧cap0=0∧z0=[])∨∃ x,a0=some x∧len0≤cap0∧cap0≤maxLen∧z0.length=cap0∧(∀ i,i<z0.length→w.cell? (x.add i)=some (.int .u8 (z0.getD i 0)))∧∀ n ∈ z0,(Lit.int .u8 n).wf=true) (y0:len0 * 1≤140737488351232) :
  Calls Try.prog 4 #[.slice a0 len0 cap0] w fun e w'=>e=.returned (.bool true)∧Below w.heap.size w w':=by
 obtain ⟨l0,rfl,hr0,hm0,hw0,hc0⟩:=Vt.ofRowC w0;obtain ⟨k,h⟩:=P l0 hm0 y0 hw0;refine (Xh.calls k _ _ l0 true w (Kd.C_of_reads (d:=(0:Int)) (h1:=fun _=>rfl) hr0) hc0 h).mono ?_
 rintro e w' ⟨rfl,hd⟩
 exact ⟨rfl,hd⟩
end Go.Proofs.Ytdkcjecllbdljaa.GSlim
