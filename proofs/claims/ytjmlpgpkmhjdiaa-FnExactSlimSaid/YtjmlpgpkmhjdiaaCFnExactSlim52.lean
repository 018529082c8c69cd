import Derived.Test.YtjmlpgpkmhjdiaaCFnExactSlim21
import Derived.Test.YtjmlpgpkmhjdiaaCFnExactSlim45
import Derived.Test.YtjmlpgpkmhjdiaaCFnExactSlim22
import Derived.Test.YtjmlpgpkmhjdiaaCFnExactSlim27
import Derived.Test.YtjmlpgpkmhjdiaaCFnExactSlim36
import Derived.Test.YtjmlpgpkmhjdiaaCFnExactSlim39
import Derived.Test.YtjmlpgpkmhjdiaaCFnExactSlim40
import Derived.Test.YtjmlpgpkmhjdiaaCFnExactSlim41
import Derived.Test.YtjmlpgpkmhjdiaaCFnExactSlim44
import Derived.Test.YtjmlpgpkmhjdiaaCFnExactSlim48
import Derived.Test.YtjmlpgpkmhjdiaaCFnExactSlim51
namespace Go.Proofs.Ytjmlpgpkmhjdiaa.GSlim
open Go.RowKit Go.Proofs.YtjmlpgpkmhjdiaaW.PrintWords Go.Proofs.YtjmlpgpkmhjdiaaW.PrintLast Go.Proofs.YtjmlpgpkmhjdiaaW.PrintMore
attribute [local go_sem] Zj Zl Zy Zz Yu Yv Zk Zm
set_option linter.unusedVariables false
set_option linter.unusedSimpArgs false
attribute [local go_sem high] eqA47
def Yq.l0:Nat→List (S47)→List (S47)→Int→Option (Bool)
 |0,_,_,_=>none
 |k+1,x0,x1,x5=>if x5<(x0.length:Int) then (if 0≤x5 then (if x5<(x1.length:Int) then (if (!(((Xb x0 x5).f0) == ((Xb x1 x5).f0))||(!(((Xb x0 x5).f1) == ((Xb x1 x5).f1))||(!(((Xb x0 x5).f2) == ((Xb x1 x5).f2))||(!(((Xb x0 x5).f3) == ((Xb x1 x5).f3))))))=true then (some false) else (Yq.l0 k x0 x1 (wrap64 (x5+1)))) else (none)) else (none)) else (some true)
def Yq.f (k:Nat) (l0:List (S47)) (l1:List (S47)):Option (Bool):=if (l0.length:Int)=(l1.length:Int) then (Yq.l0 k l0 l1 0) else (some false)
set_option maxHeartbeats 8000000 in
set_option maxRecDepth 100000 in
theorem Yq.calls (k:Nat) (A0:Option Addr) (c0:Nat) (l0:List (S47)) (A1:Option Addr) (c1:Nat) (l1:List (S47)) (r:Bool) (w:World) (hr0:Kd.C k47 w A0 l0.length l0) (hc0:l0.length≤c0) (hr1:Kd.C k47 w A1 l1.length l1) (hc1:l1.length≤c1) (h:Yq.f k l0 l1=some r) :
  Calls Try.prog 70 #[.slice A0 l0.length c0,.slice A1 l1.length c1] w fun e w'=>e=.returned (.bool r)∧Xm w w':=by
 have hu47:=Try.underlying47;have HR0:=Xa.mk hr0;have HC0:=Xa.mk hc0;clear hr0 hc0;have HR1:=Xa.mk hr1;have HC1:=Xa.mk hc1;clear hr1 hc1;have H:(if (l0.length:Int)=(l1.length:Int) then (Yq.l0 k l0 l1 0) else (some false))=some r:=h;clear h;by_cases c3:(l0.length:Int)=(l1.length:Int)
 ·rw [if_pos c3] at H;have c3b0:((l0.length:Int) == (l1.length:Int))=true:=beq_iff_eq.mpr c3;have c3b1:((l0.length:Int) != (l1.length:Int))=false:=bne_eq_false_iff_eq.mpr c3
  have c3b2:(l0.length == l1.length)=true:=by first|simpa using c3|(simp at c3 ⊢;omega)
  clear c3;have H':=Xa.mk H;clear H
  go_enter Try.func70,Try.ntmps70
  go_wp2
  repeat (go_quiet (fail);try go_wp2)
  go_loopg [5] k (fun kq v5 w'=>∃ (x5_1:Int),v5=.int .i64 x5_1∧Xa (Yq.l0 kq l0 l1 x5_1=some r)∧Xa (kq≤k)∧Xm w w')
  case atStart=>exact ⟨(0),(by first|rfl|(simp;done)|(simp [*];done)),H',⟨Nat.le_refl _⟩,by repeat (first|exact Xm.refl _|apply Xm.step)⟩
  case round=>
   clear H'
   try clear c1
   try clear p2
   try clear c3
   try clear c3b0
   try clear c3b1
   try clear c3b2
   obtain ⟨x5_1,rfl,HA,HK1,⟨m1,rfl⟩⟩:=hrel
   cases gk with
   |zero=>exact absurd HA.out (by simp [Yq.l0])
   |succ k1=>
    have H:=HA.out;clear HA;simp only [Yq.l0] at H;by_cases c4:x5_1<(l0.length:Int)
    ·rw [if_pos c4] at H;have c4b0:decide (x5_1<(l0.length:Int))=true:=decide_eq_true c4;clear c4;by_cases c5:0≤x5_1
     ·rw [if_pos c5] at H;have c5b0:decide (0≤x5_1)=true:=decide_eq_true c5;clear c5;by_cases c6:x5_1<(l1.length:Int)
      ·rw [if_pos c6] at H;have c6b0:decide (x5_1<(l1.length:Int))=true:=decide_eq_true c6;clear c6;by_cases c7:(!(((Xb l0 x5_1).f0) == ((Xb l1 x5_1).f0))||(!(((Xb l0 x5_1).f1) == ((Xb l1 x5_1).f1))||(!(((Xb l0 x5_1).f2) == ((Xb l1 x5_1).f2))||(!(((Xb l0 x5_1).f3) == ((Xb l1 x5_1).f3))))))=true
       ·rw [if_pos c7] at H;have c7b0:(!(((Xb l0 x5_1).f0) == ((Xb l1 x5_1).f0))||(!(((Xb l0 x5_1).f1) == ((Xb l1 x5_1).f1))||(!(((Xb l0 x5_1).f2) == ((Xb l1 x5_1).f2))||(!(((Xb l0 x5_1).f3) == ((Xb l1 x5_1).f3))))))=true:=c7;clear c7;obtain rfl:=Option.some.inj H;have p413:0≤(x5_1:Int):=of_decide_eq_true (by first|(with_reducible assumption)|assumption);have q413:x5_1<(l0.length:Int):=of_decide_eq_true (by first|(with_reducible assumption)|assumption);obtain ⟨ad413,e413,hx413_0,hx413_1,hx413_2,hx413_3⟩:=Yk HR0.out x5_1 p413 q413;cases e413
        replace p413:=eq_true p413;replace q413:=eq_true q413;have p414:0≤(x5_1:Int):=of_decide_eq_true (by first|(with_reducible assumption)|assumption);have q414:x5_1<(l1.length:Int):=of_decide_eq_true (by first|(with_reducible assumption)|assumption);obtain ⟨ad414,e414,hx414_0,hx414_1,hx414_2,hx414_3⟩:=Yk HR1.out x5_1 p414 q414;cases e414
        replace p414:=eq_true p414;replace q414:=eq_true q414;go_wp2
        repeat (go_quiet (fail);try go_wp2)
        go_ret
        exact ⟨by first|rfl|(simp;done)|(simp [*];done),by repeat (first|exact Xm.refl _|apply Xm.step)⟩
       ·rw [if_neg c7] at H
        have c7b0:(!(((Xb l0 x5_1).f0) == ((Xb l1 x5_1).f0))||(!(((Xb l0 x5_1).f1) == ((Xb l1 x5_1).f1))||(!(((Xb l0 x5_1).f2) == ((Xb l1 x5_1).f2))||(!(((Xb l0 x5_1).f3) == ((Xb l1 x5_1).f3))))))=false:=by simpa using c7
        clear c7;have H':=Xa.mk H;clear H;have p413:0≤(x5_1:Int):=of_decide_eq_true (by first|(with_reducible assumption)|assumption);have q413:x5_1<(l0.length:Int):=of_decide_eq_true (by first|(with_reducible assumption)|assumption);obtain ⟨ad413,e413,hx413_0,hx413_1,hx413_2,hx413_3⟩:=Yk HR0.out x5_1 p413 q413;cases e413
        replace p413:=eq_true p413;replace q413:=eq_true q413;have p414:0≤(x5_1:Int):=of_decide_eq_true (by first|(with_reducible assumption)|assumption);have q414:x5_1<(l1.length:Int):=of_decide_eq_true (by first|(with_reducible assumption)|assumption);obtain ⟨ad414,e414,hx414_0,hx414_1,hx414_2,hx414_3⟩:=Yk HR1.out x5_1 p414 q414;cases e414
        replace p414:=eq_true p414;replace q414:=eq_true q414;go_wp2
        repeat (go_quiet (fail);try go_wp2)
        go_roundg k1
        case measure=>have:=HK1.out;omega
        case rel=>exact ⟨(wrap64 (x5_1+1)),(by first|rfl|(simp;done)|(simp [*];done)),H',⟨by have:=HK1.out;omega⟩,by repeat (first|exact Xm.refl _|apply Xm.step)⟩
      ·rw [if_neg c6] at H;exact absurd H (by simp)
     ·rw [if_neg c5] at H;exact absurd H (by simp)
    ·rw [if_neg c4] at H;have c4b0:decide (x5_1<(l0.length:Int))=false:=decide_eq_false c4;clear c4;obtain rfl:=Option.some.inj H;go_wp2
     repeat (go_quiet (fail);try go_wp2)
     go_ret
     exact ⟨by first|rfl|(simp;done)|(simp [*];done),by repeat (first|exact Xm.refl _|apply Xm.step)⟩
 ·rw [if_neg c3] at H;have c3b0:((l0.length:Int) == (l1.length:Int))=false:=beq_eq_false_iff_ne.mpr c3;have c3b1:((l0.length:Int) != (l1.length:Int))=true:=bne_iff_ne.mpr c3
  have c3b2:(l0.length == l1.length)=false:=by first|simpa using c3|(simp at c3 ⊢;omega)
  obtain rfl:=Option.some.inj H
  go_enter Try.func70,Try.ntmps70
  go_wp2
  repeat (go_quiet (fail);try go_wp2)
  go_ret
  exact ⟨by first|rfl|(simp;done)|(simp [*];done),by repeat (first|exact Xm.refl _|apply Xm.step)⟩
def Ze.l0:Nat→List (S47)→Int→Option ((List (S47)))
 |0,_,_=>none
 |k+1,x0,x3=>if x3<60 then ((Yf.f k x0).bind fun t419=>((Um.f k t419).bind fun t422=>((Yq.f k t422 x0).bind fun t425=>(if t425=true then (some t422) else (Ze.l0 k t422 (wrap64 (x3+1))))))) else (some x0)
def Ze.f (k:Nat) (l0:List (S47)):Option ((List (S47))):=(Xo.f k l0).bind fun t415=>(if t415=true then (Ze.l0 k l0 0) else (some (([]:List (S47)))))
set_option maxHeartbeats 8000000 in
set_option maxRecDepth 100000 in
theorem Ze.calls (k:Nat) (P0_:Nat→Prop) (A0:Option Addr) (c0:Nat) (l0:List (S47)) (r:List (S47)) (w:World) (hs0:Kd.V k47 47 w w.heap.size (fun k_=>P0_ k_) (.slice A0 l0.length c0) l0) (h:Ze.f k l0=some r) :
  Calls Try.prog 41 #[.slice A0 l0.length c0] w fun e w'=>∃ v0_:Value,e=.returned (v0_)∧Kd.V k47 47 w' w.heap.size (fun k_=>(P0_ k_∨w.heap.size≤k_)) v0_ r∧Below w.heap.size w w':=by
 have HO0:=Xa.mk (show Kd.V k47 47 w w.heap.size (fun k_=>(P0_ k_∨w.heap.size≤k_)) (.slice A0 l0.length c0) l0 from Kd.V_mono hs0 (fun k_ hk=>.inl hk));have HB:=Xa.mk (Below.refl w.heap.size w);have H:((Xo.f k l0).bind fun t415=>(if t415=true then (Ze.l0 k l0 0) else (some (([]:List (S47))))))=some r:=h;clear h;replace H:=Option.bind_eq_some_iff.mp H;obtain ⟨t415,A20,H⟩:=H;replace H:(if t415=true then (Ze.l0 k l0 0) else (some (([]:List (S47)))))=some r:=H;have A2:=Xa.mk A20;clear A20;by_cases c3:t415=true
 ·subst c3
  have H1:(Ze.l0 k l0 0)=some r:=by rw [if_pos rfl] at H;exact H
  clear H;have H:=H1;clear H1;have H':=Xa.mk H;clear H
  go_enter Try.func41,Try.ntmps41
  go_wp2_with (first|((with_reducible refine Xe (f:=37) rfl ?_);refine Xv (some 6) rfl rfl Try.func37 (by kernel_rfl) rfl #[.slice A0 l0.length c0] rfl ga_ ?_;(with_reducible refine (Xo.calls k _ _ l0 true _ ?side1 ?side2 A2.out).mono ?_);(case side1=>repeat (first|exact (Kd.V_reads' HO0.out).2.2|(with_reducible refine Kd.Xr ?_ _)|(with_reducible refine Kd.Xt ?_ _)|(with_reducible refine Kd.Yc ?_)));(case side2=>exact (Kd.V_reads' HO0.out).2.1);rintro e w4 ⟨rfl,hb⟩;refine ⟨_,rfl,?_⟩;have n0_:=Xa.mk (Kd.V_below (Kd.va_ (HO0.out)) hb);have n1_:=Xa.mk (Xd (bl_ HB) hb);clear HO0;clear HB;have HO0:=n0_;have HB:=n1_;clear n0_ n1_;(try clear hb);(try clear hb2);(try clear hk);(try clear hi)))
  go_loopg [0,3] k (fun kq v0 v3 w'=>∃ (x0_1:List (S47)) (x3_1:Int),v3=.int .i64 x3_1∧Xa (Ze.l0 kq x0_1 x3_1=some r)∧Xa (kq≤k)∧Xa (Kd.V k47 47 w' w.heap.size (fun k_=>(P0_ k_∨w.heap.size≤k_)) v0 x0_1)∧Xa (Below w.heap.size w w'))
  case atStart=>exact ⟨(l0),(0),(by first|rfl|(simp;done)|(simp [*];done)),H',⟨Nat.le_refl _⟩,⟨Kd.va_ (HO0.out)⟩,⟨bl_ HB⟩⟩
  case round=>
   clear H'
   try clear p2
   try clear c3
   try clear c4
   obtain ⟨x0_1,x3_1,rfl,HA,HK1,HO_0,HB⟩:=hrel
   cases gk with
   |zero=>exact absurd HA.out (by simp [Ze.l0])
   |succ k1=>
    have H:=HA.out;clear HA;simp only [Ze.l0] at H;by_cases c5:x3_1<60
    ·rw [if_pos c5] at H;have c5b0:decide (x3_1<60)=true:=decide_eq_true c5;clear c5;replace H:=Option.bind_eq_some_iff.mp H;obtain ⟨t419,A60,H⟩:=H;replace H:((Um.f k1 t419).bind fun t422=>((Yq.f k1 t422 x0_1).bind fun t425=>(if t425=true then (some t422) else (Ze.l0 k1 t422 (wrap64 (x3_1+1))))))=some r:=H;have A6:=Xa.mk A60;clear A60;replace H:=Option.bind_eq_some_iff.mp H;obtain ⟨t422,A70,H⟩:=H;replace H:((Yq.f k1 t422 x0_1).bind fun t425=>(if t425=true then (some t422) else (Ze.l0 k1 t422 (wrap64 (x3_1+1)))))=some r:=H;have A7:=Xa.mk A70;clear A70;replace H:=Option.bind_eq_some_iff.mp H;obtain ⟨t425,A80,H⟩:=H;replace H:(if t425=true then (some t422) else (Ze.l0 k1 t422 (wrap64 (x3_1+1))))=some r:=H;have A8:=Xa.mk A80;clear A80;by_cases c9:t425=true
     ·subst c9
      have H1:(some t422)=some r:=by rw [if_pos rfl] at H;exact H
      clear H;have H:=H1;clear H1;obtain rfl:=Option.some.inj H;obtain ⟨Ao10,co10,eo10⟩:=Kd.V_slice HO_0.out;subst eo10;go_wp2_with (first|((with_reducible refine Xe (f:=30) rfl ?_);refine Xv (some 14) rfl rfl Try.func30 (by kernel_rfl) rfl #[.slice Ao10 x0_1.length co10] rfl ga_ ?_;(with_reducible refine (Yf.calls k1 _ _ x0_1 t419 _ ?side1 ?side2 A6.out).mono ?_);(case side1=>repeat (first|exact (Kd.V_reads' HO_0.out).2.2|(with_reducible refine Kd.Xr ?_ _)|(with_reducible refine Kd.Xt ?_ _)|(with_reducible refine Kd.Yc ?_)));(case side2=>exact (Kd.V_reads' HO_0.out).2.1);rintro e w11 ⟨v420,rfl,ho0,hb⟩;refine ⟨_,rfl,?_⟩;have n0_:=Xa.mk (Kd.V_elder' (Kd.va_ (HO_0.out)) (Kd.Yp ho0) hb);have n1_:=Xa.mk (Kd.Yl (Kd.R_newM (M:=fun k_=>(w.heap.size≤k_)) ho0 (Xc (bl_ HB)) (fun k_ h_=>h_)) (Xc (bl_ HB)));have n2_:=Xa.mk (Xd (bl_ HB) hb);clear HO_0;clear HB;have HO_0:=n0_;have HO421:=n1_;have HB:=n2_;clear n0_ n1_ n2_;(try clear hb);(try clear hb2);(try clear hk);(try clear hi);(try clear ho0);obtain ⟨Ao12,co12,eo12⟩:=Kd.Yo HO421.out;subst eo12)|((with_reducible refine Xe (f:=33) rfl ?_);refine Xv (some 15) rfl rfl Try.func33 (by kernel_rfl) rfl #[.slice Ao12 t419.length co12] rfl ga_ ?_;(with_reducible refine (Um.calls k1 _ _ t419 t422 _ ?side1 ?side2 A7.out).mono ?_);(case side1=>repeat (first|exact (Kd.R_reads' HO421.out).2.2|(with_reducible refine Kd.Xr ?_ _)|(with_reducible refine Kd.Xt ?_ _)|(with_reducible refine Kd.Yc ?_)));(case side2=>exact (Kd.R_reads' HO421.out).2.1);rintro e w13 ⟨v423,rfl,ho0,hb⟩;refine ⟨_,rfl,?_⟩;have n0_:=Xa.mk (Kd.V_elder' (Kd.va_ (HO_0.out)) (Kd.Yp ho0) hb);have n1_:=Xa.mk (Kd.R_elder' (Kd.ra_ (HO421.out)) (Kd.Yp ho0) hb);have n2_:=Xa.mk (Kd.Yl (Kd.R_new' (Kd.R_newM (M:=fun k_=>(w.heap.size≤k_)) ho0 (Xc (bl_ HB)) (fun k_ h_=>h_)) (Kd.R_lt (Kd.ra_ (HO421.out)))) (Xc (bl_ HB)));have n3_:=Xa.mk (Xd (bl_ HB) hb);clear HO_0;clear HO421;clear HB;have HO_0:=n0_;have HO421:=n1_;have HO424:=n2_;have HB:=n3_;clear n0_ n1_ n2_ n3_;(try clear hb);(try clear hb2);(try clear hk);(try clear hi);(try clear ho0);obtain ⟨Ao14,co14,eo14⟩:=Kd.Yo HO424.out;subst eo14)|((with_reducible refine Xe (f:=70) rfl ?_);refine Xv (some 18) rfl rfl Try.func70 (by kernel_rfl) rfl #[.slice Ao14 t422.length co14,.slice Ao10 x0_1.length co10] rfl ga_ ?_;(with_reducible refine (Yq.calls k1 _ _ t422 _ _ x0_1 true _ ?side1 ?side2 ?side3 ?side4 A8.out).mono ?_);(case side1=>repeat (first|exact (Kd.R_reads' HO424.out).2.2|(with_reducible refine Kd.Xr ?_ _)|(with_reducible refine Kd.Xt ?_ _)|(with_reducible refine Kd.Yc ?_)));(case side2=>exact (Kd.R_reads' HO424.out).2.1);(case side3=>repeat (first|exact (Kd.V_reads' HO_0.out).2.2|(with_reducible refine Kd.Xr ?_ _)|(with_reducible refine Kd.Xt ?_ _)|(with_reducible refine Kd.Yc ?_)));(case side4=>exact (Kd.V_reads' HO_0.out).2.1);rintro e w' ⟨rfl,⟨nd,rfl⟩⟩;refine ⟨_,rfl,?_⟩))
      go_ret
      exact ⟨_,rf_,Kd.V_mono (Kd.R_V (Kd.ra_ (Kd.Yd HO424.out (fun _ hk=>hk.1.1)))) (fun k_ hk=>by first|exact ⟨(.inr (hk.1)),hk.2⟩|exact (.inr (hk))),bl_ HB⟩
     ·replace c9:=Bool.eq_false_iff.mpr c9;subst c9
      have H1:(Ze.l0 k1 t422 (wrap64 (x3_1+1)))=some r:=by rw [if_neg (show ¬ (false=true) by decide)] at H;exact H
      clear H;have H:=H1;clear H1;have H':=Xa.mk H;clear H;obtain ⟨Ao15,co15,eo15⟩:=Kd.V_slice HO_0.out;subst eo15;go_wp2_with (first|((with_reducible refine Xe (f:=30) rfl ?_);refine Xv (some 14) rfl rfl Try.func30 (by kernel_rfl) rfl #[.slice Ao15 x0_1.length co15] rfl ga_ ?_;(with_reducible refine (Yf.calls k1 _ _ x0_1 t419 _ ?side1 ?side2 A6.out).mono ?_);(case side1=>repeat (first|exact (Kd.V_reads' HO_0.out).2.2|(with_reducible refine Kd.Xr ?_ _)|(with_reducible refine Kd.Xt ?_ _)|(with_reducible refine Kd.Yc ?_)));(case side2=>exact (Kd.V_reads' HO_0.out).2.1);rintro e w16 ⟨v420,rfl,ho0,hb⟩;refine ⟨_,rfl,?_⟩;have n0_:=Xa.mk (Kd.V_elder' (Kd.va_ (HO_0.out)) (Kd.Yp ho0) hb);have n1_:=Xa.mk (Kd.Yl (Kd.R_newM (M:=fun k_=>(w.heap.size≤k_)) ho0 (Xc (bl_ HB)) (fun k_ h_=>h_)) (Xc (bl_ HB)));have n2_:=Xa.mk (Xd (bl_ HB) hb);clear HO_0;clear HB;have HO_0:=n0_;have HO421:=n1_;have HB:=n2_;clear n0_ n1_ n2_;(try clear hb);(try clear hb2);(try clear hk);(try clear hi);(try clear ho0);obtain ⟨Ao17,co17,eo17⟩:=Kd.Yo HO421.out;subst eo17)|((with_reducible refine Xe (f:=33) rfl ?_);refine Xv (some 15) rfl rfl Try.func33 (by kernel_rfl) rfl #[.slice Ao17 t419.length co17] rfl ga_ ?_;(with_reducible refine (Um.calls k1 _ _ t419 t422 _ ?side1 ?side2 A7.out).mono ?_);(case side1=>repeat (first|exact (Kd.R_reads' HO421.out).2.2|(with_reducible refine Kd.Xr ?_ _)|(with_reducible refine Kd.Xt ?_ _)|(with_reducible refine Kd.Yc ?_)));(case side2=>exact (Kd.R_reads' HO421.out).2.1);rintro e w18 ⟨v423,rfl,ho0,hb⟩;refine ⟨_,rfl,?_⟩;have n0_:=Xa.mk (Kd.V_elder' (Kd.va_ (HO_0.out)) (Kd.Yp ho0) hb);have n1_:=Xa.mk (Kd.R_elder' (Kd.ra_ (HO421.out)) (Kd.Yp ho0) hb);have n2_:=Xa.mk (Kd.Yl (Kd.R_new' (Kd.R_newM (M:=fun k_=>(w.heap.size≤k_)) ho0 (Xc (bl_ HB)) (fun k_ h_=>h_)) (Kd.R_lt (Kd.ra_ (HO421.out)))) (Xc (bl_ HB)));have n3_:=Xa.mk (Xd (bl_ HB) hb);clear HO_0;clear HO421;clear HB;have HO_0:=n0_;have HO421:=n1_;have HO424:=n2_;have HB:=n3_;clear n0_ n1_ n2_ n3_;(try clear hb);(try clear hb2);(try clear hk);(try clear hi);(try clear ho0);obtain ⟨Ao19,co19,eo19⟩:=Kd.Yo HO424.out;subst eo19)|((with_reducible refine Xe (f:=70) rfl ?_);refine Xv (some 18) rfl rfl Try.func70 (by kernel_rfl) rfl #[.slice Ao19 t422.length co19,.slice Ao15 x0_1.length co15] rfl ga_ ?_;(with_reducible refine (Yq.calls k1 _ _ t422 _ _ x0_1 false _ ?side1 ?side2 ?side3 ?side4 A8.out).mono ?_);(case side1=>repeat (first|exact (Kd.R_reads' HO424.out).2.2|(with_reducible refine Kd.Xr ?_ _)|(with_reducible refine Kd.Xt ?_ _)|(with_reducible refine Kd.Yc ?_)));(case side2=>exact (Kd.R_reads' HO424.out).2.1);(case side3=>repeat (first|exact (Kd.V_reads' HO_0.out).2.2|(with_reducible refine Kd.Xr ?_ _)|(with_reducible refine Kd.Xt ?_ _)|(with_reducible refine Kd.Yc ?_)));(case side4=>exact (Kd.V_reads' HO_0.out).2.1);rintro e w' ⟨rfl,⟨nd,rfl⟩⟩;refine ⟨_,rfl,?_⟩))
      go_roundg k1
      case measure=>have:=HK1.out;omega
      case rel=>exact ⟨(t422),(wrap64 (x3_1+1)),(by first|rfl|(simp;done)|(simp [*];done)),H',⟨by have:=HK1.out;omega⟩,⟨Kd.V_mono (Kd.R_V (Kd.ra_ (Kd.Yd HO424.out (fun _ hk=>hk.1.1)))) (fun k_ hk=>by first|exact ⟨(.inr (hk.1)),hk.2⟩|exact (.inr (hk)))⟩,⟨bl_ HB⟩⟩
    ·rw [if_neg c5] at H;have c5b0:decide (x3_1<60)=false:=decide_eq_false c5;clear c5;obtain rfl:=Option.some.inj H;go_wp2
     go_ret
     exact ⟨_,rf_,Kd.va_ (HO_0.out),bl_ HB⟩
 ·replace c3:=Bool.eq_false_iff.mpr c3;subst c3
  have H1:(some (([]:List (S47))))=some r:=by rw [if_neg (show ¬ (false=true) by decide)] at H;exact H
  clear H;have H:=H1;clear H1;obtain ⟨y416,hy416⟩:∃ y_:List (S47),y_=(([]:List (S47))):=⟨_,rfl⟩
  replace H:(some y416)=some r:=by subst hy416;first|with_reducible exact H|(have z:=(Option.bind_some _ _).symm.trans H;with_reducible exact z)|exact H
  have Ny416:=Xa.mk hy416;clear hy416;obtain rfl:=Option.some.inj H
  go_enter Try.func41,Try.ntmps41
  go_wp2_with (first|((with_reducible refine Xe (f:=37) rfl ?_);refine Xv (some 6) rfl rfl Try.func37 (by kernel_rfl) rfl #[.slice A0 l0.length c0] rfl ga_ ?_;(with_reducible refine (Xo.calls k _ _ l0 false _ ?side1 ?side2 A2.out).mono ?_);(case side1=>repeat (first|exact (Kd.V_reads' HO0.out).2.2|(with_reducible refine Kd.Xr ?_ _)|(with_reducible refine Kd.Xt ?_ _)|(with_reducible refine Kd.Yc ?_)));(case side2=>exact (Kd.V_reads' HO0.out).2.1);rintro e w20 ⟨rfl,hb⟩;refine ⟨_,rfl,?_⟩;have n0_:=Xa.mk (Kd.V_below (Kd.va_ (HO0.out)) hb);have n1_:=Xa.mk (Xd (bl_ HB) hb);clear HO0;clear HB;have HO0:=n0_;have HB:=n1_;clear n0_ n1_;(try clear hb);(try clear hb2);(try clear hk);(try clear hi))|((with_reducible refine Xp (N:=8) rfl ?_);refine Kd.R_lit k47 _ 47 ?hg (N:=8) ?hd (xs:=([]:List (S47))) (inner:=[]) (ok:=fun _=>True) (okp:=fun _=>True) ?hr ?hp (fun _ hk=>hk) trivial (Below.refl _ _) (Nat.le_refl _) (by simp) ?_;(case hd=>rfl);(case hg=>rfl);(case hr=>first|(go_simp;done)|(go_simp;rfl));(case hp=>exact (Zb.none _ _));intro v417 w21 ho22 hb hg_ hnew_;clear hg_ hnew_;(first|rw [← Ny416.out] at ho22|(simp only [Int.reduceToNat] at ho22;rw [← Ny416.out] at ho22));have n0_:=Xa.mk (Kd.V_elder' (Kd.va_ (HO0.out)) (Kd.Yp ho22) hb);have n1_:=Xa.mk (Kd.Yl (Kd.R_newM (M:=fun k_=>(w.heap.size≤k_)) ho22 (Xc (bl_ HB)) (fun k_ h_=>h_)) (Xc (bl_ HB)));have n2_:=Xa.mk (Xd (bl_ HB) hb);clear HO0;clear HB;have HO0:=n0_;have HO418:=n1_;have HB:=n2_;clear n0_ n1_ n2_;clear hb ho22))
  go_ret
  exact ⟨_,rf_,Kd.V_mono (Kd.R_V (Kd.ra_ (Kd.Yd HO418.out (fun _ hk=>hk.1)))) (fun k_ hk=>by first|exact ⟨(.inr (hk.1)),hk.2⟩|exact (.inr (hk))),bl_ HB⟩
end Go.Proofs.Ytjmlpgpkmhjdiaa.GSlim
