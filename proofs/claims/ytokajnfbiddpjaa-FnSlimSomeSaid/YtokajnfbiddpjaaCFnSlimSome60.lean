import Derived.Test.YtokajnfbiddpjaaCFnSlimSome21
import Derived.Test.YtokajnfbiddpjaaCFnSlimSome56
import Derived.Test.YtokajnfbiddpjaaCFnSlimSome58
import Derived.Test.YtokajnfbiddpjaaCFnSlimSome59
set_option maxRecDepth 100000
namespace Go.Proofs.Ytokajnfbiddpjaa.GSlim
open Go.RowKit Go.Proofs.YtokajnfbiddpjaaW.PrintWords Go.Proofs.YtokajnfbiddpjaaW.PrintLast Go.Proofs.YtokajnfbiddpjaaW.PrintMore
attribute [local go_sem] Zx Zz Ul Um Zl Zm Zy Ua
set_option linter.unusedVariables false
set_option linter.unusedSimpArgs false
def Zu.l0:Nat→List (S31)→Int→Option ((List (S31)))
 |0,_,_=>none
 |k+1,x0,x3=>if x3<60 then ((Yx.f k x0).bind fun aG=>((Vy.f k aG).bind fun aA=>((Zt.f k aA x0).bind fun aI=>(if aI=true then (some aA) else (Zu.l0 k aA (wrap64 (x3+1))))))) else (some x0)
def Zu.f (k:Nat) (l0:List (S31)):Option ((List (S31))):=(Yb.f k l0).bind fun aK=>(if aK=true then (Zu.l0 k l0 0) else (some (([]:List (S31)))))
set_option maxHeartbeats 8000000 in
theorem Zu.calls (k:Nat) (aU:Nat→Prop) (A0:Option Addr) (c0:Nat) (l0:List (S31)) (r:List (S31)) (w:World) (hs0:Kd.V k31 31 w w.heap.size (fun k_=>aU k_) (.slice A0 l0.length c0) l0) (h:Zu.f k l0=some r) :
  Calls Try.prog 9 #[.slice A0 l0.length c0] w fun e w'=>∃ bS:Value,e=.returned (bS)∧Kd.V k31 31 w' w.heap.size (fun k_=>(aU k_∨w.heap.size≤k_)) bS r∧Below w.heap.size w w':=by
 have aL:=Xa.mk (show Kd.V k31 31 w w.heap.size (fun k_=>(aU k_∨w.heap.size≤k_)) (.slice A0 l0.length c0) l0 from Kd.Vh hs0 (fun k_ hk=>.inl hk));have HB:=Xa.mk (Below.refl w.heap.size w);have H:((Yb.f k l0).bind fun aK=>(if aK=true then (Zu.l0 k l0 0) else (some (([]:List (S31))))))=some r:=h;clear h;replace H:=Option.bind_eq_some_iff.mp H;obtain ⟨aK,bN,H⟩:=H;replace H:(if aK=true then (Zu.l0 k l0 0) else (some (([]:List (S31)))))=some r:=H;have A2:=Xa.mk bN;clear bN;by_cases c3:aK=true
 ·subst c3
  replace H:(Zu.l0 k l0 0)=some r:=(by rw [if_pos rfl] at H;exact H);have H':=Xa.mk H;clear H
  go_enter Try.func9,Try.ntmps9
  go_wp2_with (first|((with_reducible refine Xh (f:=19) rfl ?_);refine Ye (some 6) rfl rfl Try.func19 (by kernel_rfl) rfl #[.slice A0 l0.length c0] rfl ga_ ?_;(with_reducible refine (Yb.calls k _ _ l0 true _ ?side1 ?side2 A2.out).mono ?_);(case side1=>exact Kd.ca_ (Kd.V_reads' aL.out).2.2);(case side2=>exact (Kd.V_reads' aL.out).2.1);rintro e w4 ⟨rfl,hb⟩;refine ⟨_,rfl,?_⟩;replace aL:=Xa.mk (Kd.V_below (Kd.va_ (aL.out)) hb);replace HB:=Xa.mk (Xe (bl_ HB) hb);clear hb))
  go_loopg [0,3] k (fun kq v0 v3 w'=>∃ (aF:List (S31)) (aH:Int),v3=.int .i64 aH∧Xa (Zu.l0 kq aF aH=some r)∧Xa (kq≤k)∧Xa (Kd.V k31 31 w' w.heap.size (fun k_=>(aU k_∨w.heap.size≤k_)) v0 aF)∧Xa (Below w.heap.size w w'))
  case atStart=>exact ⟨(l0),(0),rg_,H',⟨Nat.le_refl _⟩,⟨Kd.va_ (aL.out)⟩,⟨bl_ HB⟩⟩
  case round=>
   clear H'
   try clear c3
   obtain ⟨aF,aH,rfl,HA,bR,aC,HB⟩:=hrel
   cases gk with
   |zero=>exact absurd HA.out (by simp [Zu.l0])
   |succ k1=>
    have H:=HA.out;clear HA;simp only [Zu.l0] at H;by_cases c5:aH<60
    ·rw [if_pos c5] at H;have aZ:=decide_eq_true c5;clear c5;replace H:=Option.bind_eq_some_iff.mp H;obtain ⟨aG,bO,H⟩:=H;replace H:((Vy.f k1 aG).bind fun aA=>((Zt.f k1 aA aF).bind fun aI=>(if aI=true then (some aA) else (Zu.l0 k1 aA (wrap64 (aH+1))))))=some r:=H;have A6:=Xa.mk bO;clear bO;replace H:=Option.bind_eq_some_iff.mp H;obtain ⟨aA,bP,H⟩:=H;replace H:((Zt.f k1 aA aF).bind fun aI=>(if aI=true then (some aA) else (Zu.l0 k1 aA (wrap64 (aH+1)))))=some r:=H;have A7:=Xa.mk bP;clear bP;replace H:=Option.bind_eq_some_iff.mp H;obtain ⟨aI,bQ,H⟩:=H;replace H:(if aI=true then (some aA) else (Zu.l0 k1 aA (wrap64 (aH+1))))=some r:=H;have A8:=Xa.mk bQ;clear bQ;by_cases c9:aI=true
     ·subst c9
      replace H:(some aA)=some r:=(by rw [if_pos rfl] at H;exact H);obtain rfl:=Option.some.inj H;obtain ⟨aO,aR,bE⟩:=Kd.V_slice aC.out;subst bE;go_wp2_with (first|((with_reducible refine Xh (f:=21) rfl ?_);refine Ye (some 14) rfl rfl Try.func21 (by kernel_rfl) rfl #[.slice aO aF.length aR] rfl ga_ ?_;(with_reducible refine (Yx.calls k1 _ _ aF aG _ ?side1 ?side2 A6.out).mono ?_);(case side1=>exact Kd.ca_ (Kd.V_reads' aC.out).2.2);(case side2=>exact (Kd.V_reads' aC.out).2.1);rintro e w11 ⟨bK,rfl,ho0,hb⟩;refine ⟨_,rfl,?_⟩;replace aC:=Xa.mk (Kd.V_elder' (Kd.va_ (aC.out)) (Kd.Yv ho0) hb);have aB:=Xa.mk (Kd.Yi (Kd.R_newM (M:=fun k_=>(w.heap.size≤k_)) ho0 (Xd (bl_ HB)) (fun k_ h_=>h_)) (Xd (bl_ HB)));replace HB:=Xa.mk (Xe (bl_ HB) hb);clear hb ho0;obtain ⟨aV,bA,bF⟩:=Kd.Yo aB.out;subst bF)|((with_reducible refine Xh (f:=20) rfl ?_);refine Ye (some 15) rfl rfl Try.func20 (by kernel_rfl) rfl #[.slice aV aG.length bA] rfl ga_ ?_;(with_reducible refine (Vy.calls k1 _ _ aG aA _ ?side1 ?side2 A7.out).mono ?_);(case side1=>exact Kd.ca_ (Kd.R_reads' aB.out).2.2);(case side2=>exact (Kd.R_reads' aB.out).2.1);rintro e w13 ⟨bL,rfl,ho0,hb⟩;refine ⟨_,rfl,?_⟩;replace aC:=Xa.mk (Kd.V_elder' (Kd.va_ (aC.out)) (Kd.Yv ho0) hb);have aD:=Xa.mk (Kd.Yi (Kd.R_new' (Kd.R_newM (M:=fun k_=>(w.heap.size≤k_)) ho0 (Xd (bl_ HB)) (fun k_ h_=>h_)) (Kd.Uu (Kd.ra_ (aB.out)))) (Xd (bl_ HB)));replace aB:=Xa.mk (Kd.R_elder' (Kd.ra_ (aB.out)) (Kd.Yv ho0) hb);replace HB:=Xa.mk (Xe (bl_ HB) hb);clear hb ho0;obtain ⟨aW,bB,bG⟩:=Kd.Yo aD.out;subst bG)|((with_reducible refine Xh (f:=22) rfl ?_);refine Ye (some 18) rfl rfl Try.func22 (by kernel_rfl) rfl #[.slice aW aA.length bB,.slice aO aF.length aR] rfl ga_ ?_;(with_reducible refine (Zt.calls k1 _ _ aA _ _ aF true _ ?side1 ?side2 ?side3 ?side4 A8.out).mono ?_);(case side1=>exact Kd.ca_ (Kd.R_reads' aD.out).2.2);(case side2=>exact (Kd.R_reads' aD.out).2.1);(case side3=>exact Kd.ca_ (Kd.V_reads' aC.out).2.2);(case side4=>exact (Kd.V_reads' aC.out).2.1);rintro e w' ⟨rfl,⟨nd,rfl⟩⟩;refine ⟨_,rfl,?_⟩))
      go_ret
      exact ⟨_,rf_,Kd.Vh (Kd.R_V (Kd.ra_ (Kd.Xo aD.out (fun _ hk=>hk.1.1)))) (fun k_ hk=>by first|exact ⟨(.inr (hk.1)),hk.2⟩|exact (.inr (hk))),bl_ HB⟩
     ·replace c9:=Bool.eq_false_iff.mpr c9;subst c9
      replace H:(Zu.l0 k1 aA (wrap64 (aH+1)))=some r:=(by rw [if_neg (show ¬ (false=true) by decide)] at H;exact H);have H':=Xa.mk H;clear H;obtain ⟨aP,aS,bH⟩:=Kd.V_slice aC.out;subst bH;go_wp2_with (first|((with_reducible refine Xh (f:=21) rfl ?_);refine Ye (some 14) rfl rfl Try.func21 (by kernel_rfl) rfl #[.slice aP aF.length aS] rfl ga_ ?_;(with_reducible refine (Yx.calls k1 _ _ aF aG _ ?side1 ?side2 A6.out).mono ?_);(case side1=>exact Kd.ca_ (Kd.V_reads' aC.out).2.2);(case side2=>exact (Kd.V_reads' aC.out).2.1);rintro e w16 ⟨bK,rfl,ho0,hb⟩;refine ⟨_,rfl,?_⟩;replace aC:=Xa.mk (Kd.V_elder' (Kd.va_ (aC.out)) (Kd.Yv ho0) hb);have aB:=Xa.mk (Kd.Yi (Kd.R_newM (M:=fun k_=>(w.heap.size≤k_)) ho0 (Xd (bl_ HB)) (fun k_ h_=>h_)) (Xd (bl_ HB)));replace HB:=Xa.mk (Xe (bl_ HB) hb);clear hb ho0;obtain ⟨aX,bC,bI⟩:=Kd.Yo aB.out;subst bI)|((with_reducible refine Xh (f:=20) rfl ?_);refine Ye (some 15) rfl rfl Try.func20 (by kernel_rfl) rfl #[.slice aX aG.length bC] rfl ga_ ?_;(with_reducible refine (Vy.calls k1 _ _ aG aA _ ?side1 ?side2 A7.out).mono ?_);(case side1=>exact Kd.ca_ (Kd.R_reads' aB.out).2.2);(case side2=>exact (Kd.R_reads' aB.out).2.1);rintro e w18 ⟨bL,rfl,ho0,hb⟩;refine ⟨_,rfl,?_⟩;replace aC:=Xa.mk (Kd.V_elder' (Kd.va_ (aC.out)) (Kd.Yv ho0) hb);have aD:=Xa.mk (Kd.Yi (Kd.R_new' (Kd.R_newM (M:=fun k_=>(w.heap.size≤k_)) ho0 (Xd (bl_ HB)) (fun k_ h_=>h_)) (Kd.Uu (Kd.ra_ (aB.out)))) (Xd (bl_ HB)));replace aB:=Xa.mk (Kd.R_elder' (Kd.ra_ (aB.out)) (Kd.Yv ho0) hb);replace HB:=Xa.mk (Xe (bl_ HB) hb);clear hb ho0;obtain ⟨aY,bD,bJ⟩:=Kd.Yo aD.out;subst bJ)|((with_reducible refine Xh (f:=22) rfl ?_);refine Ye (some 18) rfl rfl Try.func22 (by kernel_rfl) rfl #[.slice aY aA.length bD,.slice aP aF.length aS] rfl ga_ ?_;(with_reducible refine (Zt.calls k1 _ _ aA _ _ aF false _ ?side1 ?side2 ?side3 ?side4 A8.out).mono ?_);(case side1=>exact Kd.ca_ (Kd.R_reads' aD.out).2.2);(case side2=>exact (Kd.R_reads' aD.out).2.1);(case side3=>exact Kd.ca_ (Kd.V_reads' aC.out).2.2);(case side4=>exact (Kd.V_reads' aC.out).2.1);rintro e w' ⟨rfl,⟨nd,rfl⟩⟩;refine ⟨_,rfl,?_⟩))
      go_roundg k1
      case measure=>have:=bR.out;omega
      case rel=>exact ⟨(aA),(wrap64 (aH+1)),rg_,H',⟨by have:=bR.out;omega⟩,⟨Kd.Vh (Kd.R_V (Kd.ra_ (Kd.Xo aD.out (fun _ hk=>hk.1.1)))) (fun k_ hk=>by first|exact ⟨(.inr (hk.1)),hk.2⟩|exact (.inr (hk)))⟩,⟨bl_ HB⟩⟩
    ·rw [if_neg c5] at H;have aZ:=decide_eq_false c5;clear c5;obtain rfl:=Option.some.inj H;go_wp2
     go_ret
     exact ⟨_,rf_,Kd.va_ (aC.out),bl_ HB⟩
 ·replace c3:=Bool.eq_false_iff.mpr c3;subst c3
  replace H:(some (([]:List (S31))))=some r:=(by rw [if_neg (show ¬ (false=true) by decide)] at H;exact H);obtain ⟨bM,aM⟩:∃ y_:List (S31),y_=(([]:List (S31))):=⟨_,rfl⟩
  replace H:(some bM)=some r:=by subst aM;first|with_reducible exact H|(have z:=(Option.bind_some _ _).symm.trans H;with_reducible exact z)|exact H
  have aN:=Xa.mk aM;clear aM;obtain rfl:=Option.some.inj H
  go_enter Try.func9,Try.ntmps9
  go_wp2_with (first|((with_reducible refine Xh (f:=19) rfl ?_);refine Ye (some 6) rfl rfl Try.func19 (by kernel_rfl) rfl #[.slice A0 l0.length c0] rfl ga_ ?_;(with_reducible refine (Yb.calls k _ _ l0 false _ ?side1 ?side2 A2.out).mono ?_);(case side1=>exact Kd.ca_ (Kd.V_reads' aL.out).2.2);(case side2=>exact (Kd.V_reads' aL.out).2.1);rintro e w20 ⟨rfl,hb⟩;refine ⟨_,rfl,?_⟩;replace aL:=Xa.mk (Kd.V_below (Kd.va_ (aL.out)) hb);replace HB:=Xa.mk (Xe (bl_ HB) hb);clear hb)|((with_reducible refine Xt (N:=8) rfl ?_);refine Kd.Vo k31 _ 31 ?hg (N:=8) ?hd (xs:=([]:List (S31))) (inner:=[]) (ok:=fun _=>True) (okp:=fun _=>True) ?hr ?hp (fun _ hk=>hk) trivial (Below.refl _ _) (Nat.le_refl _) (by simp) ?_;(case hd|hg=>rfl);(case hr=>exact hr_);(case hp=>exact (Yj.none _ _));intro v469 w21 aJ hb bT aT;clear bT aT;(first|rw [← aN.out] at aJ|(simp only [Int.reduceToNat] at aJ;rw [← aN.out] at aJ));replace aL:=Xa.mk (Kd.V_elder' (Kd.va_ (aL.out)) (Kd.Yv aJ) hb);have aQ:=Xa.mk (Kd.Yi (Kd.R_newM (M:=fun k_=>(w.heap.size≤k_)) aJ (Xd (bl_ HB)) (fun k_ h_=>h_)) (Xd (bl_ HB)));replace HB:=Xa.mk (Xe (bl_ HB) hb);clear hb aJ))
  go_ret
  exact ⟨_,rf_,Kd.Vh (Kd.R_V (Kd.ra_ (Kd.Xo aQ.out (fun _ hk=>hk.1)))) (fun k_ hk=>by first|exact ⟨(.inr (hk.1)),hk.2⟩|exact (.inr (hk))),bl_ HB⟩
end Go.Proofs.Ytokajnfbiddpjaa.GSlim
