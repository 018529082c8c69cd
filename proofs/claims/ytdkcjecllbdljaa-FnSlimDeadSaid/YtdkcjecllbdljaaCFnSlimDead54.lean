import Derived.Test.YtdkcjecllbdljaaCFnSlimDead21
import Derived.Test.YtdkcjecllbdljaaCFnSlimDead31
import Derived.Test.YtdkcjecllbdljaaCFnSlimDead39
import Derived.Test.YtdkcjecllbdljaaCFnSlimDead41
import Derived.Test.YtdkcjecllbdljaaCFnSlimDead47
import Derived.Test.YtdkcjecllbdljaaCFnSlimDead51
import Derived.Test.YtdkcjecllbdljaaCFnSlimDead53
namespace Go.Proofs.Ytdkcjecllbdljaa.GSlim
open Go.RowKit Go.Proofs.YtdkcjecllbdljaaW.PrintWords Go.Proofs.YtdkcjecllbdljaaW.PrintLast Go.Proofs.YtdkcjecllbdljaaW.PrintMore
attribute [local go_sem] Zo Zq Uf Ug Zi Zj Zp Zr
set_option linter.unusedVariables false
set_option linter.unusedSimpArgs false
def Uh.f (k:Nat) (l0:List (S31)):Option (List Bool):=(Yn.f k l0).bind fun t572=>(if t572=true then ((impl_reach.f k l0).bind fun t573=>(some t573)) else (some ([]:List Bool)))
set_option maxHeartbeats 8000000 in
set_option maxRecDepth 100000 in
theorem Uh.calls (k:Nat) (A0:Option Addr) (c0:Nat) (l0:List (S31)) (r:List Bool) (w:World) (hr0:Kd.C k31 w A0 l0.length l0) (hc0:l0.length≤c0) (h:Uh.f k l0=some r) :
  Calls Try.prog 11 #[.slice A0 l0.length c0] w fun e w'=>∃ v0_:Value,e=.returned (v0_)∧Kd.R Kd.bool 4 w' w.heap.size (fun _=>True) v0_ r∧Below w.heap.size w w':=by
 have HR0:=Xa.mk hr0;have HC0:=Xa.mk hc0;clear hr0 hc0;have HB:=Xa.mk (Below.refl w.heap.size w);have H:((Yn.f k l0).bind fun t572=>(if t572=true then ((impl_reach.f k l0).bind fun t573=>(some t573)) else (some ([]:List Bool))))=some r:=h;clear h;replace H:=Option.bind_eq_some_iff.mp H;obtain ⟨t572,A20,H⟩:=H;replace H:(if t572=true then ((impl_reach.f k l0).bind fun t573=>(some t573)) else (some ([]:List Bool)))=some r:=H;have A2:=Xa.mk A20;clear A20;by_cases c3:t572=true
 ·subst c3
  have H1:((impl_reach.f k l0).bind fun t573=>(some t573))=some r:=by rw [if_pos rfl] at H;exact H
  clear H;have H:=H1;clear H1;replace H:=Option.bind_eq_some_iff.mp H;obtain ⟨t573,A40,H⟩:=H;replace H:(some t573)=some r:=H;have A4:=Xa.mk A40;clear A40;obtain rfl:=Option.some.inj H
  go_enter Try.func11,Try.ntmps11
  go_wp2_with (first|((with_reducible refine Xh (f:=12) rfl ?_);refine Yj (some 4) rfl rfl Try.func12 (by kernel_rfl) rfl #[.slice A0 l0.length c0] rfl ga_ ?_;(with_reducible refine (Yn.calls k _ _ l0 true _ ?side1 ?side2 A2.out).mono ?_);(case side1=>repeat (first|exact HR0.out|(with_reducible refine Kd.Xw ?_ _)|(with_reducible refine Kd.Xx ?_ _)|(with_reducible refine Kd.Yf ?_)));(case side2=>exact HC0.out);rintro e w5 ⟨rfl,hb⟩;refine ⟨_,rfl,?_⟩;have n0_:=Xa.mk (Xd (bl_ HB) hb);clear HB;have HB:=n0_;clear n0_;(try clear hb);(try clear hb2);(try clear hk);(try clear hi))|((with_reducible refine Xh (f:=25) rfl ?_);refine Yj (some 7) rfl rfl Try.func25 (by kernel_rfl) rfl #[.slice A0 l0.length c0] rfl ga_ ?_;(with_reducible refine (impl_reach.calls k _ _ l0 t573 _ ?side1 ?side2 A4.out).mono ?_);(case side1=>repeat (first|exact (Kd.Zk HR0.out HB.out)|(with_reducible refine Kd.Xw ?_ _)|(with_reducible refine Kd.Xx ?_ _)|(with_reducible refine Kd.Yf ?_)));(case side2=>exact HC0.out);rintro e w6 ⟨v574,rfl,ho0,hb⟩;refine ⟨_,rfl,?_⟩;have n0_:=Xa.mk (Kd.Yi ho0 (Xc (bl_ HB)));have n1_:=Xa.mk (Xd (bl_ HB) hb);clear HB;have HO575:=n0_;have HB:=n1_;clear n0_ n1_;(try clear hb);(try clear hb2);(try clear hk);(try clear hi);(try clear ho0)))
  go_ret
  exact ⟨_,rf_,Kd.ra_ (HO575.out),bl_ HB⟩
 ·replace c3:=Bool.eq_false_iff.mpr c3;subst c3
  have H1:(some ([]:List Bool))=some r:=by rw [if_neg (show ¬ (false=true) by decide)] at H;exact H
  clear H;have H:=H1;clear H1;obtain rfl:=Option.some.inj H
  go_enter Try.func11,Try.ntmps11
  go_wp2_with (first|((with_reducible refine Xh (f:=12) rfl ?_);refine Yj (some 4) rfl rfl Try.func12 (by kernel_rfl) rfl #[.slice A0 l0.length c0] rfl ga_ ?_;(with_reducible refine (Yn.calls k _ _ l0 false _ ?side1 ?side2 A2.out).mono ?_);(case side1=>repeat (first|exact HR0.out|(with_reducible refine Kd.Xw ?_ _)|(with_reducible refine Kd.Xx ?_ _)|(with_reducible refine Kd.Yf ?_)));(case side2=>exact HC0.out);rintro e w7 ⟨rfl,hb⟩;refine ⟨_,rfl,?_⟩;have n0_:=Xa.mk (Xd (bl_ HB) hb);clear HB;have HB:=n0_;clear n0_;(try clear hb);(try clear hb2);(try clear hk);(try clear hi)))
  go_ret
  exact ⟨_,rf_,by first|exact Kd.R_nil _ _ _ _ _|exact Kd.N_nil _ _ _ _ _|exact Kd.V_nil _ _ _ _ _|exact Kd.Q_nil _ _ _ _ _|exact Kd.S_nil _ _ _ _ _,bl_ HB⟩
mutual
def Xn.l0:Nat→List (S31)→List (S31)→List Bool→Int→Option (Bool)
 |0,_,_,_,_=>none
 |k+1,x3,x4,x5,x6=>if x6≤13 then (Xn.l1 k x3 x4 x5 x6 0 0) else ((Yn.f k x4).bind fun t590=>(some t590))
def Xn.l1:Nat→List (S31)→List (S31)→List Bool→Int→Int→Int→Option (Bool)
 |0,_,_,_,_,_,_=>none
 |k+1,x3,x4,x5,x6,x7,x8=>if x8<(x3.length:Int) then (if 0≤x8 then (if ((Xb x3 x8).f0)=x6 then (if x8<(x5.length:Int) then (if rdOf false x5 x8=true then (Xn.l1 k x3 x4 x5 x6 (wrap64 (x7+1)) (wrap64 (x8+1))) else (if x8=(wrap64 ((x3.length:Int) - 1)) then (Xn.l1 k x3 x4 x5 x6 (wrap64 (x7+1)) (wrap64 (x8+1))) else (Xn.l1 k x3 x4 x5 x6 x7 (wrap64 (x8+1))))) else (none)) else (Xn.l1 k x3 x4 x5 x6 x7 (wrap64 (x8+1)))) else (none)) else (Xn.l2 k x3 x4 x5 x6 x7 0 0)
def Xn.l2:Nat→List (S31)→List (S31)→List Bool→Int→Int→Int→Int→Option (Bool)
 |0,_,_,_,_,_,_,_=>none
 |k+1,x3,x4,x5,x6,x7,x9,x10=>if x10<(x4.length:Int) then (if 0≤x10 then (if ((Xb x4 x10).f0)=x6 then (Xn.l2 k x3 x4 x5 x6 x7 (wrap64 (x9+1)) (wrap64 (x10+1))) else (Xn.l2 k x3 x4 x5 x6 x7 x9 (wrap64 (x10+1)))) else (none)) else (if x6=7 then (if x9 > x7 then (some false) else (Xn.l0 k x3 x4 x5 (wrap64 (x6+1)))) else (if x7=x9 then (Xn.l0 k x3 x4 x5 (wrap64 (x6+1))) else (some false)))
end
def Xn.f (k:Nat) (l0:List Int):Option (Bool):=if (l0.length:Int) > 1048576 then (some true) else ((Vb.f k l0).bind fun t576=>((Vh.f k t576).bind fun t579=>((Ui.f k t576).bind fun t582=>((Uz.f k t579 t582).bind fun t585=>(if t585=true then ((Yg.f k t576).bind fun t586=>(if t586=true then ((Uh.f k t576).bind fun t587=>(Xn.l0 k t576 t579 t587 1)) else (some ((t579.length:Int) == 0)))) else (some false))))))
set_option maxHeartbeats 8000000 in
set_option maxRecDepth 100000 in
theorem Xn.calls (k:Nat) (A0:Option Addr) (c0:Nat) (l0:List Int) (r:Bool) (w:World) (hr0:Kd.C (Kd.int .u8) w A0 l0.length l0) (hc0:l0.length≤c0) (h:Xn.f k l0=some r) :
  Calls Try.prog 3 #[.slice A0 l0.length c0] w fun e w'=>e=.returned (.bool r)∧Below w.heap.size w w':=by
 have HR0:=Xa.mk hr0;have HC0:=Xa.mk hc0;clear hr0 hc0;have HB:=Xa.mk (Below.refl w.heap.size w);have H:(if (l0.length:Int) > 1048576 then (some true) else ((Vb.f k l0).bind fun t576=>((Vh.f k t576).bind fun t579=>((Ui.f k t576).bind fun t582=>((Uz.f k t579 t582).bind fun t585=>(if t585=true then ((Yg.f k t576).bind fun t586=>(if t586=true then ((Uh.f k t576).bind fun t587=>(Xn.l0 k t576 t579 t587 1)) else (some ((t579.length:Int) == 0)))) else (some false)))))))=some r:=h;clear h;by_cases c2:(l0.length:Int) > 1048576
 ·rw [if_pos c2] at H;have c2b0:decide (1048576<(l0.length:Int))=true:=decide_eq_true c2;have c2b1:decide (1048576<l0.length)=true:=decide_eq_true (by omega);clear c2;obtain rfl:=Option.some.inj H
  go_enter Try.func3,Try.ntmps3
  go_wp2
  go_ret
  exact ⟨rf_,bl_ HB⟩
 ·rw [if_neg c2] at H;have c2b0:decide (1048576<(l0.length:Int))=false:=decide_eq_false c2;have c2b1:decide (1048576<l0.length)=false:=decide_eq_false (by omega);clear c2;replace H:=Option.bind_eq_some_iff.mp H;obtain ⟨t576,A30,H⟩:=H;replace H:((Vh.f k t576).bind fun t579=>((Ui.f k t576).bind fun t582=>((Uz.f k t579 t582).bind fun t585=>(if t585=true then ((Yg.f k t576).bind fun t586=>(if t586=true then ((Uh.f k t576).bind fun t587=>(Xn.l0 k t576 t579 t587 1)) else (some ((t579.length:Int) == 0)))) else (some false)))))=some r:=H;have A3:=Xa.mk A30;clear A30;replace H:=Option.bind_eq_some_iff.mp H;obtain ⟨t579,A40,H⟩:=H;replace H:((Ui.f k t576).bind fun t582=>((Uz.f k t579 t582).bind fun t585=>(if t585=true then ((Yg.f k t576).bind fun t586=>(if t586=true then ((Uh.f k t576).bind fun t587=>(Xn.l0 k t576 t579 t587 1)) else (some ((t579.length:Int) == 0)))) else (some false))))=some r:=H;have A4:=Xa.mk A40;clear A40;replace H:=Option.bind_eq_some_iff.mp H;obtain ⟨t582,A50,H⟩:=H;replace H:((Uz.f k t579 t582).bind fun t585=>(if t585=true then ((Yg.f k t576).bind fun t586=>(if t586=true then ((Uh.f k t576).bind fun t587=>(Xn.l0 k t576 t579 t587 1)) else (some ((t579.length:Int) == 0)))) else (some false)))=some r:=H;have A5:=Xa.mk A50;clear A50;replace H:=Option.bind_eq_some_iff.mp H;obtain ⟨t585,A60,H⟩:=H;replace H:(if t585=true then ((Yg.f k t576).bind fun t586=>(if t586=true then ((Uh.f k t576).bind fun t587=>(Xn.l0 k t576 t579 t587 1)) else (some ((t579.length:Int) == 0)))) else (some false))=some r:=H;have A6:=Xa.mk A60;clear A60;by_cases c7:t585=true
  ·subst c7
   have H1:((Yg.f k t576).bind fun t586=>(if t586=true then ((Uh.f k t576).bind fun t587=>(Xn.l0 k t576 t579 t587 1)) else (some ((t579.length:Int) == 0))))=some r:=by rw [if_pos rfl] at H;exact H
   clear H;have H:=H1;clear H1;replace H:=Option.bind_eq_some_iff.mp H;obtain ⟨t586,A80,H⟩:=H;replace H:(if t586=true then ((Uh.f k t576).bind fun t587=>(Xn.l0 k t576 t579 t587 1)) else (some ((t579.length:Int) == 0)))=some r:=H;have A8:=Xa.mk A80;clear A80;by_cases c9:t586=true
   ·subst c9
    have H1:((Uh.f k t576).bind fun t587=>(Xn.l0 k t576 t579 t587 1))=some r:=by rw [if_pos rfl] at H;exact H
    clear H;have H:=H1;clear H1;replace H:=Option.bind_eq_some_iff.mp H;obtain ⟨t587,A100,H⟩:=H;replace H:(Xn.l0 k t576 t579 t587 1)=some r:=H;have A10:=Xa.mk A100;clear A100;have H':=Xa.mk H;clear H
    go_enter Try.func3,Try.ntmps3
    go_wp2_with (first|((with_reducible refine Xh (f:=6) rfl ?_);refine Yj (some 15) rfl rfl Try.func6 (by kernel_rfl) rfl #[.slice A0 l0.length c0] rfl ga_ ?_;(with_reducible refine (Vb.calls k _ _ l0 t576 _ ?side1 ?side2 A3.out).mono ?_);(case side1=>repeat (first|exact HR0.out|(with_reducible refine Kd.Xw ?_ _)|(with_reducible refine Kd.Xx ?_ _)|(with_reducible refine Kd.Yf ?_)));(case side2=>exact HC0.out);rintro e w11 ⟨v577,rfl,ho0,hb⟩;refine ⟨_,rfl,?_⟩;have n0_:=Xa.mk (Kd.Yi ho0 (Xc (bl_ HB)));have n1_:=Xa.mk (Xd (bl_ HB) hb);clear HB;have HO578:=n0_;have HB:=n1_;clear n0_ n1_;(try clear hb);(try clear hb2);(try clear hk);(try clear hi);(try clear ho0);obtain ⟨Ao12,co12,eo12⟩:=Kd.Za HO578.out;subst eo12)|((with_reducible refine Xh (f:=7) rfl ?_);refine Yj (some 17) rfl rfl Try.func7 (by kernel_rfl) rfl #[.slice Ao12 t576.length co12] rfl ga_ ?_;(with_reducible refine (Vh.calls k _ _ t576 t579 _ ?side1 ?side2 A4.out).mono ?_);(case side1=>repeat (first|exact (Kd.R_reads' HO578.out).2.2|(with_reducible refine Kd.Xw ?_ _)|(with_reducible refine Kd.Xx ?_ _)|(with_reducible refine Kd.Yf ?_)));(case side2=>exact (Kd.R_reads' HO578.out).2.1);rintro e w13 ⟨v580,rfl,ho0,hb⟩;refine ⟨_,rfl,?_⟩;have n0_:=Xa.mk (Kd.R_elder' (Kd.ra_ (HO578.out)) (Kd.Zh ho0) hb);have n1_:=Xa.mk (Kd.Yi (Kd.R_new' ho0 (Kd.Uj (Kd.ra_ (HO578.out)))) (Xc (bl_ HB)));have n2_:=Xa.mk (Xd (bl_ HB) hb);clear HO578;clear HB;have HO578:=n0_;have HO581:=n1_;have HB:=n2_;clear n0_ n1_ n2_;(try clear hb);(try clear hb2);(try clear hk);(try clear hi);(try clear ho0))|((with_reducible refine Xh (f:=9) rfl ?_);refine Yj (some 20) rfl rfl Try.func9 (by kernel_rfl) rfl #[.slice Ao12 t576.length co12] rfl ga_ ?_;(with_reducible refine (Ui.calls k _ _ t576 t582 _ ?side1 ?side2 A5.out).mono ?_);(case side1=>repeat (first|exact (Kd.R_reads' HO578.out).2.2|(with_reducible refine Kd.Xw ?_ _)|(with_reducible refine Kd.Xx ?_ _)|(with_reducible refine Kd.Yf ?_)));(case side2=>exact (Kd.R_reads' HO578.out).2.1);rintro e w14 ⟨v583,rfl,ho0,hb⟩;refine ⟨_,rfl,?_⟩;have n0_:=Xa.mk (Kd.R_elder' (Kd.ra_ (HO578.out)) (Kd.Zh ho0) hb);have n1_:=Xa.mk (Kd.R_elder' (Kd.ra_ (HO581.out)) (Kd.Zh ho0) hb);have n2_:=Xa.mk (Kd.Yi (Kd.R_new' (Kd.R_new' ho0 (Kd.Uj (Kd.ra_ (HO578.out)))) (Kd.Uj (Kd.ra_ (HO581.out)))) (Xc (bl_ HB)));have n3_:=Xa.mk (Xd (bl_ HB) hb);clear HO578;clear HO581;clear HB;have HO578:=n0_;have HO581:=n1_;have HO584:=n2_;have HB:=n3_;clear n0_ n1_ n2_ n3_;(try clear hb);(try clear hb2);(try clear hk);(try clear hi);(try clear ho0);obtain ⟨Ao15,co15,eo15⟩:=Kd.Za HO581.out;subst eo15;obtain ⟨Ao16,co16,eo16⟩:=Kd.Za HO584.out;subst eo16)|((with_reducible refine Xh (f:=8) rfl ?_);refine Yj (some 21) rfl rfl Try.func8 (by kernel_rfl) rfl #[.slice Ao15 t579.length co15,.slice Ao16 t582.length co16] rfl ga_ ?_;(with_reducible refine (Uz.calls k _ _ t579 _ _ t582 true _ ?side1 ?side2 ?side3 ?side4 A6.out).mono ?_);(case side1=>repeat (first|exact (Kd.R_reads' HO581.out).2.2|(with_reducible refine Kd.Xw ?_ _)|(with_reducible refine Kd.Xx ?_ _)|(with_reducible refine Kd.Yf ?_)));(case side2=>exact (Kd.R_reads' HO581.out).2.1);(case side3=>repeat (first|exact (Kd.R_reads' HO584.out).2.2|(with_reducible refine Kd.Xw ?_ _)|(with_reducible refine Kd.Xx ?_ _)|(with_reducible refine Kd.Yf ?_)));(case side4=>exact (Kd.R_reads' HO584.out).2.1);rintro e w' ⟨rfl,⟨nd,rfl⟩⟩;refine ⟨_,rfl,?_⟩)|((with_reducible refine Xh (f:=10) rfl ?_);refine Yj (some 24) rfl rfl Try.func10 (by kernel_rfl) rfl #[.slice Ao12 t576.length co12] rfl ga_ ?_;(with_reducible refine (Yg.calls k _ _ t576 true _ ?side1 ?side2 A8.out).mono ?_);(case side1=>repeat (first|exact (Kd.R_reads' HO578.out).2.2|(with_reducible refine Kd.Xw ?_ _)|(with_reducible refine Kd.Xx ?_ _)|(with_reducible refine Kd.Yf ?_)));(case side2=>exact (Kd.R_reads' HO578.out).2.1);rintro e w17 ⟨rfl,hb⟩;refine ⟨_,rfl,?_⟩;have n0_:=Xa.mk (Kd.Un (Kd.ra_ (HO578.out)) hb);have n1_:=Xa.mk (Kd.Un (Kd.ra_ (HO581.out)) hb);have n2_:=Xa.mk (Kd.Un (Kd.ra_ (HO584.out)) hb);have n3_:=Xa.mk (Xd (bl_ HB) hb);clear HO578;clear HO581;clear HO584;clear HB;have HO578:=n0_;have HO581:=n1_;have HO584:=n2_;have HB:=n3_;clear n0_ n1_ n2_ n3_;(try clear hb);(try clear hb2);(try clear hk);(try clear hi))|((with_reducible refine Xh (f:=11) rfl ?_);refine Yj (some 30) rfl rfl Try.func11 (by kernel_rfl) rfl #[.slice Ao12 t576.length co12] rfl ga_ ?_;(with_reducible refine (Uh.calls k _ _ t576 t587 _ ?side1 ?side2 A10.out).mono ?_);(case side1=>repeat (first|exact (Kd.R_reads' HO578.out).2.2|(with_reducible refine Kd.Xw ?_ _)|(with_reducible refine Kd.Xx ?_ _)|(with_reducible refine Kd.Yf ?_)));(case side2=>exact (Kd.R_reads' HO578.out).2.1);rintro e w18 ⟨v588,rfl,ho0,hb⟩;refine ⟨_,rfl,?_⟩;have n0_:=Xa.mk (Kd.Un (Kd.ra_ (HO578.out)) hb);have n1_:=Xa.mk (Kd.Un (Kd.ra_ (HO581.out)) hb);have n2_:=Xa.mk (Kd.Un (Kd.ra_ (HO584.out)) hb);have n3_:=Xa.mk (Kd.Yi ho0 (Xc (bl_ HB)));have n4_:=Xa.mk (Xd (bl_ HB) hb);clear HO578;clear HO581;clear HO584;clear HB;have HO578:=n0_;have HO581:=n1_;have HO584:=n2_;have HO589:=n3_;have HB:=n4_;clear n0_ n1_ n2_ n3_ n4_;(try clear hb);(try clear hb2);(try clear hk);(try clear hi);(try clear ho0)))
    go_loopg [6] k (fun kq v6 w'=>∃ (x6_1:Int),v6=.int .i64 x6_1∧Xa (Xn.l0 kq t576 t579 t587 x6_1=some r)∧Xa (kq≤k)∧Xa (Kd.R k31 31 w' w.heap.size (fun k_=>some k_≠((.slice Ao15 t579.length co15):Value).ownBlock) (.slice Ao12 t576.length co12) t576)∧Xa (Kd.R k31 31 w' w.heap.size (fun k_=>some k_≠((.slice Ao12 t576.length co12):Value).ownBlock) (.slice Ao15 t579.length co15) t579)∧Xa (Kd.R Kd.bool 4 w' w.heap.size (fun _=>True) v588 t587)∧Xa (Below w.heap.size w w'))
    case atStart=>exact ⟨(1),(by first|rfl|(simp;done)|(simp [*];done)),H',⟨Nat.le_refl _⟩,⟨Kd.ra_ (Kd.Xo HO578.out (fun _ hk=>hk.1.2))⟩,⟨Kd.ra_ (Kd.Xo HO581.out (fun _ hk=>hk.1.2))⟩,⟨Kd.ra_ (HO589.out)⟩,⟨bl_ HB⟩⟩
    case round=>
     clear H'
     try clear c1
     try clear c2
     try clear c2b0
     try clear c2b1
     try clear p2
     try clear c3
     try clear c6
     try clear c7
     try clear c8
     try clear c9
     try clear c10
     try clear c11
     obtain ⟨x6_1,rfl,HA,HK1,HO_3,HO_4,HO_5,HB⟩:=hrel
     cases gk with
     |zero=>exact absurd HA.out (by simp [Xn.l0])
     |succ k1=>
      have H:=HA.out;clear HA;simp only [Xn.l0] at H;by_cases c19:x6_1≤13
      ·rw [if_pos c19] at H;have c19b0:decide (x6_1≤13)=true:=decide_eq_true c19;clear c19;have H':=Xa.mk H;clear H;go_wp2
       go_loopg [7,8] k1 (fun kq v7 v8 w'=>∃ (x7_2:Int) (x8_2:Int),v7=.int .i64 x7_2∧v8=.int .i64 x8_2∧Xa (Xn.l1 kq t576 t579 t587 x6_1 x7_2 x8_2=some r)∧Xa (kq≤k1)∧Xa (Kd.R k31 31 w' w.heap.size (fun k_=>some k_≠((.slice Ao15 t579.length co15):Value).ownBlock) (.slice Ao12 t576.length co12) t576)∧Xa (Kd.R k31 31 w' w.heap.size (fun k_=>some k_≠((.slice Ao12 t576.length co12):Value).ownBlock) (.slice Ao15 t579.length co15) t579)∧Xa (Kd.R Kd.bool 4 w' w.heap.size (fun _=>True) v588 t587)∧Xa (Below w.heap.size w w'))
       case atStart=>exact ⟨(0),(0),(by first|rfl|(simp;done)|(simp [*];done)),(by first|rfl|(simp;done)|(simp [*];done)),H',⟨Nat.le_refl _⟩,⟨Kd.ra_ (HO_3.out)⟩,⟨Kd.ra_ (HO_4.out)⟩,⟨Kd.ra_ (HO_5.out)⟩,⟨bl_ HB⟩⟩
       case round=>
        clear H'
        try clear c1
        try clear c2
        try clear c2b0
        try clear c2b1
        try clear p2
        try clear c3
        try clear c6
        try clear c7
        try clear c8
        try clear c9
        try clear c10
        try clear c11
        try clear c19
        try clear c19b0
        try clear p2
        obtain ⟨x7_2,x8_2,rfl,rfl,HA,HK2,HO_3,HO_4,HO_5,HB⟩:=hrel
        cases gk with
        |zero=>exact absurd HA.out (by simp [Xn.l1])
        |succ k2=>
         have H:=HA.out;clear HA;simp only [Xn.l1] at H;by_cases c20:x8_2<(t576.length:Int)
         ·rw [if_pos c20] at H;have c20b0:decide (x8_2<(t576.length:Int))=true:=decide_eq_true c20;clear c20;by_cases c21:0≤x8_2
          ·rw [if_pos c21] at H;have c21b0:decide (0≤x8_2)=true:=decide_eq_true c21;clear c21;by_cases c22:((Xb t576 x8_2).f0)=x6_1
           ·rw [if_pos c22] at H;have c22b0:(((Xb t576 x8_2).f0) == x6_1)=true:=beq_iff_eq.mpr c22;have c22b1:(((Xb t576 x8_2).f0) != x6_1)=false:=bne_eq_false_iff_eq.mpr c22;clear c22;by_cases c23:x8_2<(t587.length:Int)
            ·rw [if_pos c23] at H;have c23b0:decide (x8_2<(t587.length:Int))=true:=decide_eq_true c23;clear c23;obtain ⟨bq24,hbq24⟩:∃ b_:Bool,b_=(rdOf false t587 x8_2):=⟨_,rfl⟩
             replace H:(if bq24=true then (Xn.l1 k2 t576 t579 t587 x6_1 (wrap64 (x7_2+1)) (wrap64 (x8_2+1))) else (if x8_2=(wrap64 ((t576.length:Int) - 1)) then (Xn.l1 k2 t576 t579 t587 x6_1 (wrap64 (x7_2+1)) (wrap64 (x8_2+1))) else (Xn.l1 k2 t576 t579 t587 x6_1 x7_2 (wrap64 (x8_2+1)))))=some r:=by rw [← hbq24] at H;exact H
             have Nbq24:=Xa.mk hbq24;clear hbq24;by_cases c25:bq24=true
             ·subst c25
              have H1:(Xn.l1 k2 t576 t579 t587 x6_1 (wrap64 (x7_2+1)) (wrap64 (x8_2+1)))=some r:=by rw [if_pos rfl] at H;exact H
              clear H;have H:=H1;clear H1;have H':=Xa.mk H;clear H;have p591:0≤(x8_2:Int):=of_decide_eq_true (by first|(with_reducible assumption)|assumption);have q591:x8_2<(t576.length:Int):=of_decide_eq_true (by first|(with_reducible assumption)|assumption);obtain ⟨ad591,e591,hx591_0,hx591_1,hx591_2,hx591_3⟩:=Uk (Kd.R_reads' HO_3.out).2.2 x8_2 p591 q591;cases e591
              replace p591:=eq_true p591;replace q591:=eq_true q591;obtain ⟨Ao26,co26,eo26⟩:=Kd.Za HO_5.out;subst eo26;have p592:0≤(x8_2:Int):=of_decide_eq_true (by first|(with_reducible assumption)|assumption);have q592:x8_2<(t587.length:Int):=of_decide_eq_true (by first|(with_reducible assumption)|assumption);obtain ⟨ad592,e592,hx592_0⟩:=Kd.at_bool (Kd.R_reads' HO_5.out).2.2 x8_2 p592 q592
              (try rw [← Nbq24.out] at hx592_0)
              cases e592
              replace p592:=eq_true p592;replace q592:=eq_true q592;go_wp2
              go_roundg k2
              case measure=>have:=HK1.out;have:=HK2.out;omega
              case rel=>exact ⟨(wrap64 (x7_2+1)),(wrap64 (x8_2+1)),(by first|rfl|(simp;done)|(simp [*];done)),(by first|rfl|(simp;done)|(simp [*];done)),H',⟨by have:=HK1.out;have:=HK2.out;omega⟩,⟨Kd.ra_ (HO_3.out)⟩,⟨Kd.ra_ (HO_4.out)⟩,⟨Kd.ra_ (HO_5.out)⟩,⟨bl_ HB⟩⟩
             ·replace c25:=Bool.eq_false_iff.mpr c25;subst c25
              have H1:(if x8_2=(wrap64 ((t576.length:Int) - 1)) then (Xn.l1 k2 t576 t579 t587 x6_1 (wrap64 (x7_2+1)) (wrap64 (x8_2+1))) else (Xn.l1 k2 t576 t579 t587 x6_1 x7_2 (wrap64 (x8_2+1))))=some r:=by rw [if_neg (show ¬ (false=true) by decide)] at H;exact H
              clear H;have H:=H1;clear H1;by_cases c27:x8_2=(wrap64 ((t576.length:Int) - 1))
              ·rw [if_pos c27] at H;have c27b0:(x8_2 == (wrap64 ((t576.length:Int) - 1)))=true:=beq_iff_eq.mpr c27;have c27b1:(x8_2 != (wrap64 ((t576.length:Int) - 1)))=false:=bne_eq_false_iff_eq.mpr c27;clear c27;have H':=Xa.mk H;clear H;have p591:0≤(x8_2:Int):=of_decide_eq_true (by first|(with_reducible assumption)|assumption);have q591:x8_2<(t576.length:Int):=of_decide_eq_true (by first|(with_reducible assumption)|assumption);obtain ⟨ad591,e591,hx591_0,hx591_1,hx591_2,hx591_3⟩:=Uk (Kd.R_reads' HO_3.out).2.2 x8_2 p591 q591;cases e591
               replace p591:=eq_true p591;replace q591:=eq_true q591;obtain ⟨Ao28,co28,eo28⟩:=Kd.Za HO_5.out;subst eo28;have p592:0≤(x8_2:Int):=of_decide_eq_true (by first|(with_reducible assumption)|assumption);have q592:x8_2<(t587.length:Int):=of_decide_eq_true (by first|(with_reducible assumption)|assumption);obtain ⟨ad592,e592,hx592_0⟩:=Kd.at_bool (Kd.R_reads' HO_5.out).2.2 x8_2 p592 q592
               (try rw [← Nbq24.out] at hx592_0)
               cases e592
               replace p592:=eq_true p592;replace q592:=eq_true q592;go_wp2
               go_roundg k2
               case measure=>have:=HK1.out;have:=HK2.out;omega
               case rel=>exact ⟨(wrap64 (x7_2+1)),(wrap64 (x8_2+1)),(by first|rfl|(simp;done)|(simp [*];done)),(by first|rfl|(simp;done)|(simp [*];done)),H',⟨by have:=HK1.out;have:=HK2.out;omega⟩,⟨Kd.ra_ (HO_3.out)⟩,⟨Kd.ra_ (HO_4.out)⟩,⟨Kd.ra_ (HO_5.out)⟩,⟨bl_ HB⟩⟩
              ·rw [if_neg c27] at H;have c27b0:(x8_2 == (wrap64 ((t576.length:Int) - 1)))=false:=beq_eq_false_iff_ne.mpr c27;have c27b1:(x8_2 != (wrap64 ((t576.length:Int) - 1)))=true:=bne_iff_ne.mpr c27;have H':=Xa.mk H;clear H;have p591:0≤(x8_2:Int):=of_decide_eq_true (by first|(with_reducible assumption)|assumption);have q591:x8_2<(t576.length:Int):=of_decide_eq_true (by first|(with_reducible assumption)|assumption);obtain ⟨ad591,e591,hx591_0,hx591_1,hx591_2,hx591_3⟩:=Uk (Kd.R_reads' HO_3.out).2.2 x8_2 p591 q591;cases e591
               replace p591:=eq_true p591;replace q591:=eq_true q591;obtain ⟨Ao29,co29,eo29⟩:=Kd.Za HO_5.out;subst eo29;have p592:0≤(x8_2:Int):=of_decide_eq_true (by first|(with_reducible assumption)|assumption);have q592:x8_2<(t587.length:Int):=of_decide_eq_true (by first|(with_reducible assumption)|assumption);obtain ⟨ad592,e592,hx592_0⟩:=Kd.at_bool (Kd.R_reads' HO_5.out).2.2 x8_2 p592 q592
               (try rw [← Nbq24.out] at hx592_0)
               cases e592
               replace p592:=eq_true p592;replace q592:=eq_true q592;go_wp2
               go_roundg k2
               case measure=>have:=HK1.out;have:=HK2.out;omega
               case rel=>exact ⟨(x7_2),(wrap64 (x8_2+1)),(by first|rfl|(simp;done)|(simp [*];done)),(by first|rfl|(simp;done)|(simp [*];done)),H',⟨by have:=HK1.out;have:=HK2.out;omega⟩,⟨Kd.ra_ (HO_3.out)⟩,⟨Kd.ra_ (HO_4.out)⟩,⟨Kd.ra_ (HO_5.out)⟩,⟨bl_ HB⟩⟩
            ·rw [if_neg c23] at H;exact absurd H (by simp)
           ·rw [if_neg c22] at H;have c22b0:(((Xb t576 x8_2).f0) == x6_1)=false:=beq_eq_false_iff_ne.mpr c22;have c22b1:(((Xb t576 x8_2).f0) != x6_1)=true:=bne_iff_ne.mpr c22;have H':=Xa.mk H;clear H;have p591:0≤(x8_2:Int):=of_decide_eq_true (by first|(with_reducible assumption)|assumption);have q591:x8_2<(t576.length:Int):=of_decide_eq_true (by first|(with_reducible assumption)|assumption);obtain ⟨ad591,e591,hx591_0,hx591_1,hx591_2,hx591_3⟩:=Uk (Kd.R_reads' HO_3.out).2.2 x8_2 p591 q591;cases e591
            replace p591:=eq_true p591;replace q591:=eq_true q591;go_wp2
            go_roundg k2
            case measure=>have:=HK1.out;have:=HK2.out;omega
            case rel=>exact ⟨(x7_2),(wrap64 (x8_2+1)),(by first|rfl|(simp;done)|(simp [*];done)),(by first|rfl|(simp;done)|(simp [*];done)),H',⟨by have:=HK1.out;have:=HK2.out;omega⟩,⟨Kd.ra_ (HO_3.out)⟩,⟨Kd.ra_ (HO_4.out)⟩,⟨Kd.ra_ (HO_5.out)⟩,⟨bl_ HB⟩⟩
          ·rw [if_neg c21] at H;exact absurd H (by simp)
         ·rw [if_neg c20] at H;have c20b0:decide (x8_2<(t576.length:Int))=false:=decide_eq_false c20;clear c20;have H':=Xa.mk H;clear H;go_wp2
          go_loopg [9,10] k2 (fun kq v9 v10 w'=>∃ (x9_3:Int) (x10_3:Int),v9=.int .i64 x9_3∧v10=.int .i64 x10_3∧Xa (Xn.l2 kq t576 t579 t587 x6_1 x7_2 x9_3 x10_3=some r)∧Xa (kq≤k2)∧Xa (Kd.R k31 31 w' w.heap.size (fun k_=>some k_≠((.slice Ao15 t579.length co15):Value).ownBlock) (.slice Ao12 t576.length co12) t576)∧Xa (Kd.R k31 31 w' w.heap.size (fun k_=>some k_≠((.slice Ao12 t576.length co12):Value).ownBlock) (.slice Ao15 t579.length co15) t579)∧Xa (Kd.R Kd.bool 4 w' w.heap.size (fun _=>True) v588 t587)∧Xa (Below w.heap.size w w'))
          case atStart=>exact ⟨(0),(0),(by first|rfl|(simp;done)|(simp [*];done)),(by first|rfl|(simp;done)|(simp [*];done)),H',⟨Nat.le_refl _⟩,⟨Kd.ra_ (HO_3.out)⟩,⟨Kd.ra_ (HO_4.out)⟩,⟨Kd.ra_ (HO_5.out)⟩,⟨bl_ HB⟩⟩
          case round=>
           clear H'
           try clear c1
           try clear c2
           try clear c2b0
           try clear c2b1
           try clear p2
           try clear q2
           try clear c3
           try clear p5
           try clear q5
           try clear hx5
           try clear c6
           try clear p6
           try clear c7
           try clear c8
           try clear c9
           try clear c10
           try clear c11
           try clear c19
           try clear c19b0
           try clear c20
           try clear c20b0
           try clear c21
           try clear c21b0
           try clear c22
           try clear c22b0
           try clear c22b1
           try clear c23
           try clear c23b0
           try clear q24
           try clear c25
           try clear c27
           try clear c27b0
           try clear c27b1
           try clear hx591_0
           try clear hx591_1
           try clear hx591_2
           try clear hx591_3
           try clear hx592_0
           try clear p2
           try clear p591
           try clear p592
           try clear q591
           try clear q592
           obtain ⟨x9_3,x10_3,rfl,rfl,HA,HK3,HO_3,HO_4,HO_5,HB⟩:=hrel
           cases gk with
           |zero=>exact absurd HA.out (by simp [Xn.l2])
           |succ k3=>
            have H:=HA.out;clear HA;simp only [Xn.l2] at H;by_cases c30:x10_3<(t579.length:Int)
            ·rw [if_pos c30] at H;have c30b0:decide (x10_3<(t579.length:Int))=true:=decide_eq_true c30;clear c30;by_cases c31:0≤x10_3
             ·rw [if_pos c31] at H;have c31b0:decide (0≤x10_3)=true:=decide_eq_true c31;clear c31;by_cases c32:((Xb t579 x10_3).f0)=x6_1
              ·rw [if_pos c32] at H;have c32b0:(((Xb t579 x10_3).f0) == x6_1)=true:=beq_iff_eq.mpr c32;have c32b1:(((Xb t579 x10_3).f0) != x6_1)=false:=bne_eq_false_iff_eq.mpr c32;clear c32;have H':=Xa.mk H;clear H;have p593:0≤(x10_3:Int):=of_decide_eq_true (by first|(with_reducible assumption)|assumption);have q593:x10_3<(t579.length:Int):=of_decide_eq_true (by first|(with_reducible assumption)|assumption);obtain ⟨ad593,e593,hx593_0,hx593_1,hx593_2,hx593_3⟩:=Uk (Kd.R_reads' HO_4.out).2.2 x10_3 p593 q593;cases e593
               replace p593:=eq_true p593;replace q593:=eq_true q593;go_wp2
               go_roundg k3
               case measure=>have:=HK1.out;have:=HK2.out;have:=HK3.out;omega
               case rel=>exact ⟨(wrap64 (x9_3+1)),(wrap64 (x10_3+1)),(by first|rfl|(simp;done)|(simp [*];done)),(by first|rfl|(simp;done)|(simp [*];done)),H',⟨by have:=HK1.out;have:=HK2.out;have:=HK3.out;omega⟩,⟨Kd.ra_ (HO_3.out)⟩,⟨Kd.ra_ (HO_4.out)⟩,⟨Kd.ra_ (HO_5.out)⟩,⟨bl_ HB⟩⟩
              ·rw [if_neg c32] at H;have c32b0:(((Xb t579 x10_3).f0) == x6_1)=false:=beq_eq_false_iff_ne.mpr c32;have c32b1:(((Xb t579 x10_3).f0) != x6_1)=true:=bne_iff_ne.mpr c32;have H':=Xa.mk H;clear H;have p593:0≤(x10_3:Int):=of_decide_eq_true (by first|(with_reducible assumption)|assumption);have q593:x10_3<(t579.length:Int):=of_decide_eq_true (by first|(with_reducible assumption)|assumption);obtain ⟨ad593,e593,hx593_0,hx593_1,hx593_2,hx593_3⟩:=Uk (Kd.R_reads' HO_4.out).2.2 x10_3 p593 q593;cases e593
               replace p593:=eq_true p593;replace q593:=eq_true q593;go_wp2
               go_roundg k3
               case measure=>have:=HK1.out;have:=HK2.out;have:=HK3.out;omega
               case rel=>exact ⟨(x9_3),(wrap64 (x10_3+1)),(by first|rfl|(simp;done)|(simp [*];done)),(by first|rfl|(simp;done)|(simp [*];done)),H',⟨by have:=HK1.out;have:=HK2.out;have:=HK3.out;omega⟩,⟨Kd.ra_ (HO_3.out)⟩,⟨Kd.ra_ (HO_4.out)⟩,⟨Kd.ra_ (HO_5.out)⟩,⟨bl_ HB⟩⟩
             ·rw [if_neg c31] at H;exact absurd H (by simp)
            ·rw [if_neg c30] at H;have c30b0:decide (x10_3<(t579.length:Int))=false:=decide_eq_false c30;clear c30;by_cases c33:x6_1=7
             ·rw [if_pos c33] at H;have c33b0:(x6_1 == 7)=true:=beq_iff_eq.mpr c33;have c33b1:(x6_1 != 7)=false:=bne_eq_false_iff_eq.mpr c33;clear c33;by_cases c34:x9_3 > x7_2
              ·rw [if_pos c34] at H;have c34b0:decide (x7_2<x9_3)=true:=decide_eq_true c34;clear c34;obtain rfl:=Option.some.inj H;go_wp2
               go_ret
               exact ⟨rf_,bl_ HB⟩
              ·rw [if_neg c34] at H;have c34b0:decide (x7_2<x9_3)=false:=decide_eq_false c34;clear c34;have H':=Xa.mk H;clear H;go_wp2
               go_roundg k3
               case measure=>have:=HK1.out;have:=HK2.out;have:=HK3.out;omega
               case rel=>exact ⟨(wrap64 (x6_1+1)),(by first|rfl|(simp;done)|(simp [*];done)),H',⟨by have:=HK1.out;have:=HK2.out;have:=HK3.out;omega⟩,⟨Kd.ra_ (HO_3.out)⟩,⟨Kd.ra_ (HO_4.out)⟩,⟨Kd.ra_ (HO_5.out)⟩,⟨bl_ HB⟩⟩
             ·rw [if_neg c33] at H;have c33b0:(x6_1 == 7)=false:=beq_eq_false_iff_ne.mpr c33;have c33b1:(x6_1 != 7)=true:=bne_iff_ne.mpr c33;by_cases c35:x7_2=x9_3
              ·rw [if_pos c35] at H;have c35b0:(x7_2 == x9_3)=true:=beq_iff_eq.mpr c35;have c35b1:(x7_2 != x9_3)=false:=bne_eq_false_iff_eq.mpr c35;clear c35;have H':=Xa.mk H;clear H;go_wp2
               go_roundg k3
               case measure=>have:=HK1.out;have:=HK2.out;have:=HK3.out;omega
               case rel=>exact ⟨(wrap64 (x6_1+1)),(by first|rfl|(simp;done)|(simp [*];done)),H',⟨by have:=HK1.out;have:=HK2.out;have:=HK3.out;omega⟩,⟨Kd.ra_ (HO_3.out)⟩,⟨Kd.ra_ (HO_4.out)⟩,⟨Kd.ra_ (HO_5.out)⟩,⟨bl_ HB⟩⟩
              ·rw [if_neg c35] at H;have c35b0:(x7_2 == x9_3)=false:=beq_eq_false_iff_ne.mpr c35;have c35b1:(x7_2 != x9_3)=true:=bne_iff_ne.mpr c35;obtain rfl:=Option.some.inj H;go_wp2
               go_ret
               exact ⟨rf_,bl_ HB⟩
      ·rw [if_neg c19] at H;have c19b0:decide (x6_1≤13)=false:=decide_eq_false c19;clear c19;replace H:=Option.bind_eq_some_iff.mp H;obtain ⟨t590,A360,H⟩:=H;replace H:(some t590)=some r:=H;have A36:=Xa.mk A360;clear A360;obtain rfl:=Option.some.inj H;go_wp2_with (first|((with_reducible refine Xh (f:=12) rfl ?_);refine Yj (some 95) rfl rfl Try.func12 (by kernel_rfl) rfl #[.slice Ao15 t579.length co15] rfl ga_ ?_;(with_reducible refine (Yn.calls k1 _ _ t579 t590 _ ?side1 ?side2 A36.out).mono ?_);(case side1=>repeat (first|exact (Kd.R_reads' HO_4.out).2.2|(with_reducible refine Kd.Xw ?_ _)|(with_reducible refine Kd.Xx ?_ _)|(with_reducible refine Kd.Yf ?_)));(case side2=>exact (Kd.R_reads' HO_4.out).2.1);rintro e w37 ⟨rfl,hb⟩;refine ⟨_,rfl,?_⟩;have n0_:=Xa.mk (Kd.Un (Kd.ra_ (HO_3.out)) hb);have n1_:=Xa.mk (Kd.Un (Kd.ra_ (HO_4.out)) hb);have n2_:=Xa.mk (Kd.Un (Kd.ra_ (HO_5.out)) hb);have n3_:=Xa.mk (Xd (bl_ HB) hb);clear HO_3;clear HO_4;clear HO_5;clear HB;have HO_3:=n0_;have HO_4:=n1_;have HO_5:=n2_;have HB:=n3_;clear n0_ n1_ n2_ n3_;(try clear hb);(try clear hb2);(try clear hk);(try clear hi)))
       go_ret
       exact ⟨rf_,bl_ HB⟩
   ·replace c9:=Bool.eq_false_iff.mpr c9;subst c9
    have H1:(some ((t579.length:Int) == 0))=some r:=by rw [if_neg (show ¬ (false=true) by decide)] at H;exact H
    clear H;have H:=H1;clear H1;obtain rfl:=Option.some.inj H
    go_enter Try.func3,Try.ntmps3
    go_wp2_with (first|((with_reducible refine Xh (f:=6) rfl ?_);refine Yj (some 15) rfl rfl Try.func6 (by kernel_rfl) rfl #[.slice A0 l0.length c0] rfl ga_ ?_;(with_reducible refine (Vb.calls k _ _ l0 t576 _ ?side1 ?side2 A3.out).mono ?_);(case side1=>repeat (first|exact HR0.out|(with_reducible refine Kd.Xw ?_ _)|(with_reducible refine Kd.Xx ?_ _)|(with_reducible refine Kd.Yf ?_)));(case side2=>exact HC0.out);rintro e w38 ⟨v577,rfl,ho0,hb⟩;refine ⟨_,rfl,?_⟩;have n0_:=Xa.mk (Kd.Yi ho0 (Xc (bl_ HB)));have n1_:=Xa.mk (Xd (bl_ HB) hb);clear HB;have HO578:=n0_;have HB:=n1_;clear n0_ n1_;(try clear hb);(try clear hb2);(try clear hk);(try clear hi);(try clear ho0);obtain ⟨Ao39,co39,eo39⟩:=Kd.Za HO578.out;subst eo39)|((with_reducible refine Xh (f:=7) rfl ?_);refine Yj (some 17) rfl rfl Try.func7 (by kernel_rfl) rfl #[.slice Ao39 t576.length co39] rfl ga_ ?_;(with_reducible refine (Vh.calls k _ _ t576 t579 _ ?side1 ?side2 A4.out).mono ?_);(case side1=>repeat (first|exact (Kd.R_reads' HO578.out).2.2|(with_reducible refine Kd.Xw ?_ _)|(with_reducible refine Kd.Xx ?_ _)|(with_reducible refine Kd.Yf ?_)));(case side2=>exact (Kd.R_reads' HO578.out).2.1);rintro e w40 ⟨v580,rfl,ho0,hb⟩;refine ⟨_,rfl,?_⟩;have n0_:=Xa.mk (Kd.R_elder' (Kd.ra_ (HO578.out)) (Kd.Zh ho0) hb);have n1_:=Xa.mk (Kd.Yi (Kd.R_new' ho0 (Kd.Uj (Kd.ra_ (HO578.out)))) (Xc (bl_ HB)));have n2_:=Xa.mk (Xd (bl_ HB) hb);clear HO578;clear HB;have HO578:=n0_;have HO581:=n1_;have HB:=n2_;clear n0_ n1_ n2_;(try clear hb);(try clear hb2);(try clear hk);(try clear hi);(try clear ho0))|((with_reducible refine Xh (f:=9) rfl ?_);refine Yj (some 20) rfl rfl Try.func9 (by kernel_rfl) rfl #[.slice Ao39 t576.length co39] rfl ga_ ?_;(with_reducible refine (Ui.calls k _ _ t576 t582 _ ?side1 ?side2 A5.out).mono ?_);(case side1=>repeat (first|exact (Kd.R_reads' HO578.out).2.2|(with_reducible refine Kd.Xw ?_ _)|(with_reducible refine Kd.Xx ?_ _)|(with_reducible refine Kd.Yf ?_)));(case side2=>exact (Kd.R_reads' HO578.out).2.1);rintro e w41 ⟨v583,rfl,ho0,hb⟩;refine ⟨_,rfl,?_⟩;have n0_:=Xa.mk (Kd.R_elder' (Kd.ra_ (HO578.out)) (Kd.Zh ho0) hb);have n1_:=Xa.mk (Kd.R_elder' (Kd.ra_ (HO581.out)) (Kd.Zh ho0) hb);have n2_:=Xa.mk (Kd.Yi (Kd.R_new' (Kd.R_new' ho0 (Kd.Uj (Kd.ra_ (HO578.out)))) (Kd.Uj (Kd.ra_ (HO581.out)))) (Xc (bl_ HB)));have n3_:=Xa.mk (Xd (bl_ HB) hb);clear HO578;clear HO581;clear HB;have HO578:=n0_;have HO581:=n1_;have HO584:=n2_;have HB:=n3_;clear n0_ n1_ n2_ n3_;(try clear hb);(try clear hb2);(try clear hk);(try clear hi);(try clear ho0);obtain ⟨Ao42,co42,eo42⟩:=Kd.Za HO581.out;subst eo42;obtain ⟨Ao43,co43,eo43⟩:=Kd.Za HO584.out;subst eo43)|((with_reducible refine Xh (f:=8) rfl ?_);refine Yj (some 21) rfl rfl Try.func8 (by kernel_rfl) rfl #[.slice Ao42 t579.length co42,.slice Ao43 t582.length co43] rfl ga_ ?_;(with_reducible refine (Uz.calls k _ _ t579 _ _ t582 true _ ?side1 ?side2 ?side3 ?side4 A6.out).mono ?_);(case side1=>repeat (first|exact (Kd.R_reads' HO581.out).2.2|(with_reducible refine Kd.Xw ?_ _)|(with_reducible refine Kd.Xx ?_ _)|(with_reducible refine Kd.Yf ?_)));(case side2=>exact (Kd.R_reads' HO581.out).2.1);(case side3=>repeat (first|exact (Kd.R_reads' HO584.out).2.2|(with_reducible refine Kd.Xw ?_ _)|(with_reducible refine Kd.Xx ?_ _)|(with_reducible refine Kd.Yf ?_)));(case side4=>exact (Kd.R_reads' HO584.out).2.1);rintro e w' ⟨rfl,⟨nd,rfl⟩⟩;refine ⟨_,rfl,?_⟩)|((with_reducible refine Xh (f:=10) rfl ?_);refine Yj (some 24) rfl rfl Try.func10 (by kernel_rfl) rfl #[.slice Ao39 t576.length co39] rfl ga_ ?_;(with_reducible refine (Yg.calls k _ _ t576 false _ ?side1 ?side2 A8.out).mono ?_);(case side1=>repeat (first|exact (Kd.R_reads' HO578.out).2.2|(with_reducible refine Kd.Xw ?_ _)|(with_reducible refine Kd.Xx ?_ _)|(with_reducible refine Kd.Yf ?_)));(case side2=>exact (Kd.R_reads' HO578.out).2.1);rintro e w44 ⟨rfl,hb⟩;refine ⟨_,rfl,?_⟩;have n0_:=Xa.mk (Kd.Un (Kd.ra_ (HO578.out)) hb);have n1_:=Xa.mk (Kd.Un (Kd.ra_ (HO581.out)) hb);have n2_:=Xa.mk (Kd.Un (Kd.ra_ (HO584.out)) hb);have n3_:=Xa.mk (Xd (bl_ HB) hb);clear HO578;clear HO581;clear HO584;clear HB;have HO578:=n0_;have HO581:=n1_;have HO584:=n2_;have HB:=n3_;clear n0_ n1_ n2_ n3_;(try clear hb);(try clear hb2);(try clear hk);(try clear hi)))
    go_ret
    exact ⟨rf_,bl_ HB⟩
  ·replace c7:=Bool.eq_false_iff.mpr c7;subst c7
   have H1:(some false)=some r:=by rw [if_neg (show ¬ (false=true) by decide)] at H;exact H
   clear H;have H:=H1;clear H1;obtain rfl:=Option.some.inj H
   go_enter Try.func3,Try.ntmps3
   go_wp2_with (first|((with_reducible refine Xh (f:=6) rfl ?_);refine Yj (some 15) rfl rfl Try.func6 (by kernel_rfl) rfl #[.slice A0 l0.length c0] rfl ga_ ?_;(with_reducible refine (Vb.calls k _ _ l0 t576 _ ?side1 ?side2 A3.out).mono ?_);(case side1=>repeat (first|exact HR0.out|(with_reducible refine Kd.Xw ?_ _)|(with_reducible refine Kd.Xx ?_ _)|(with_reducible refine Kd.Yf ?_)));(case side2=>exact HC0.out);rintro e w45 ⟨v577,rfl,ho0,hb⟩;refine ⟨_,rfl,?_⟩;have n0_:=Xa.mk (Kd.Yi ho0 (Xc (bl_ HB)));have n1_:=Xa.mk (Xd (bl_ HB) hb);clear HB;have HO578:=n0_;have HB:=n1_;clear n0_ n1_;(try clear hb);(try clear hb2);(try clear hk);(try clear hi);(try clear ho0);obtain ⟨Ao46,co46,eo46⟩:=Kd.Za HO578.out;subst eo46)|((with_reducible refine Xh (f:=7) rfl ?_);refine Yj (some 17) rfl rfl Try.func7 (by kernel_rfl) rfl #[.slice Ao46 t576.length co46] rfl ga_ ?_;(with_reducible refine (Vh.calls k _ _ t576 t579 _ ?side1 ?side2 A4.out).mono ?_);(case side1=>repeat (first|exact (Kd.R_reads' HO578.out).2.2|(with_reducible refine Kd.Xw ?_ _)|(with_reducible refine Kd.Xx ?_ _)|(with_reducible refine Kd.Yf ?_)));(case side2=>exact (Kd.R_reads' HO578.out).2.1);rintro e w47 ⟨v580,rfl,ho0,hb⟩;refine ⟨_,rfl,?_⟩;have n0_:=Xa.mk (Kd.R_elder' (Kd.ra_ (HO578.out)) (Kd.Zh ho0) hb);have n1_:=Xa.mk (Kd.Yi (Kd.R_new' ho0 (Kd.Uj (Kd.ra_ (HO578.out)))) (Xc (bl_ HB)));have n2_:=Xa.mk (Xd (bl_ HB) hb);clear HO578;clear HB;have HO578:=n0_;have HO581:=n1_;have HB:=n2_;clear n0_ n1_ n2_;(try clear hb);(try clear hb2);(try clear hk);(try clear hi);(try clear ho0))|((with_reducible refine Xh (f:=9) rfl ?_);refine Yj (some 20) rfl rfl Try.func9 (by kernel_rfl) rfl #[.slice Ao46 t576.length co46] rfl ga_ ?_;(with_reducible refine (Ui.calls k _ _ t576 t582 _ ?side1 ?side2 A5.out).mono ?_);(case side1=>repeat (first|exact (Kd.R_reads' HO578.out).2.2|(with_reducible refine Kd.Xw ?_ _)|(with_reducible refine Kd.Xx ?_ _)|(with_reducible refine Kd.Yf ?_)));(case side2=>exact (Kd.R_reads' HO578.out).2.1);rintro e w48 ⟨v583,rfl,ho0,hb⟩;refine ⟨_,rfl,?_⟩;have n0_:=Xa.mk (Kd.R_elder' (Kd.ra_ (HO578.out)) (Kd.Zh ho0) hb);have n1_:=Xa.mk (Kd.R_elder' (Kd.ra_ (HO581.out)) (Kd.Zh ho0) hb);have n2_:=Xa.mk (Kd.Yi (Kd.R_new' (Kd.R_new' ho0 (Kd.Uj (Kd.ra_ (HO578.out)))) (Kd.Uj (Kd.ra_ (HO581.out)))) (Xc (bl_ HB)));have n3_:=Xa.mk (Xd (bl_ HB) hb);clear HO578;clear HO581;clear HB;have HO578:=n0_;have HO581:=n1_;have HO584:=n2_;have HB:=n3_;clear n0_ n1_ n2_ n3_;(try clear hb);(try clear hb2);(try clear hk);(try clear hi);(try clear ho0);obtain ⟨Ao49,co49,eo49⟩:=Kd.Za HO581.out;subst eo49;obtain ⟨Ao50,co50,eo50⟩:=Kd.Za HO584.out;subst eo50)|((with_reducible refine Xh (f:=8) rfl ?_);refine Yj (some 21) rfl rfl Try.func8 (by kernel_rfl) rfl #[.slice Ao49 t579.length co49,.slice Ao50 t582.length co50] rfl ga_ ?_;(with_reducible refine (Uz.calls k _ _ t579 _ _ t582 false _ ?side1 ?side2 ?side3 ?side4 A6.out).mono ?_);(case side1=>repeat (first|exact (Kd.R_reads' HO581.out).2.2|(with_reducible refine Kd.Xw ?_ _)|(with_reducible refine Kd.Xx ?_ _)|(with_reducible refine Kd.Yf ?_)));(case side2=>exact (Kd.R_reads' HO581.out).2.1);(case side3=>repeat (first|exact (Kd.R_reads' HO584.out).2.2|(with_reducible refine Kd.Xw ?_ _)|(with_reducible refine Kd.Xx ?_ _)|(with_reducible refine Kd.Yf ?_)));(case side4=>exact (Kd.R_reads' HO584.out).2.1);rintro e w' ⟨rfl,⟨nd,rfl⟩⟩;refine ⟨_,rfl,?_⟩))
   go_ret
   exact ⟨rf_,bl_ HB⟩
def Xn.Pure:Prop:=∀ (l0:List Int),l0.length≤maxLen→l0.length * 1≤140737488351232→(∀ x ∈ l0,(Lit.int .u8 x).wf=true)→∃ k,Xn.f k l0=some true
theorem Xn.walk (P:Xn.Pure) (a0:Option Addr) (len0 cap0:Nat) (z0:List Int) (w:World) (w0:(a0=none∧len0=0∧cap0=0∧z0=[])∨∃ x,a0=some x∧len0≤cap0∧cap0≤maxLen∧z0.length=cap0∧(∀ i,i<z0.length→w.cell? (x.add i)=some (.int .u8 (z0.getD i 0)))∧∀ n ∈ z0,(Lit.int .u8 n).wf=true) (y0:len0 * 1≤140737488351232) :
  Calls Try.prog 3 #[.slice a0 len0 cap0] w fun e w'=>e=.returned (.bool true)∧Below w.heap.size w w':=by
 obtain ⟨l0,rfl,hr0,hm0,hw0,hc0⟩:=Vs.ofRowC w0;obtain ⟨k,h⟩:=P l0 hm0 y0 hw0;refine (Xn.calls k _ _ l0 true w (Kd.C_of_reads (d:=(0:Int)) (h1:=fun _=>rfl) hr0) hc0 h).mono ?_
 rintro e w' ⟨rfl,hd⟩
 exact ⟨rfl,hd⟩
end Go.Proofs.Ytdkcjecllbdljaa.GSlim
