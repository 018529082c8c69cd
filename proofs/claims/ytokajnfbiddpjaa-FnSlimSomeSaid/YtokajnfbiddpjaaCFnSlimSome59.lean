import Derived.Test.YtokajnfbiddpjaaCFnSlimSome21
import Derived.Test.YtokajnfbiddpjaaCFnSlimSome44
import Derived.Test.YtokajnfbiddpjaaCFnSlimSome56
set_option maxHeartbeats 8000000
set_option maxRecDepth 100000
namespace Go.Proofs.Ytokajnfbiddpjaa.GSlim
open Go.RowKit Go.Proofs.YtokajnfbiddpjaaW.PrintWords Go.Proofs.YtokajnfbiddpjaaW.PrintLast Go.Proofs.YtokajnfbiddpjaaW.PrintMore
attribute [local go_sem] Zx Zz Ul Um Zl Zm Zy Ua
set_option linter.unusedVariables false
set_option linter.unusedSimpArgs false
attribute [local go_sem high] eqA31
def Vl.l0:Nat→List (S31)→Int→Int→Int→Option (Int)
 |0,_,_,_,_=>none
 |k+1,x0,x1,x5,x6=>if x6<(x0.length:Int) then (if 0≤x5 then (if x5<(x0.length:Int) then (if ((Xb x0 x5).f0)=7 then (Vl.l0 k x0 x1 ((Xb x0 x5).f3) (wrap64 (x6+1))) else (some x5)) else (none)) else (none)) else (if 0≤x5 then (if x5<(x0.length:Int) then (if ((Xb x0 x5).f0)=7 then (some x1) else (some x5)) else (none)) else (none))
def Vl.f (k:Nat) (l0:List (S31)) (a1:Int):Option (Int):=Vl.l0 k l0 a1 a1 0
theorem Vl.calls (k:Nat) (A0:Option Addr) (c0:Nat) (l0:List (S31)) (a1:Int) (r:Int) (w:World) (hr0:Kd.C k31 w A0 l0.length l0) (hc0:l0.length≤c0) (h:Vl.f k l0 a1=some r) :
  Calls Try.prog 41 #[.slice A0 l0.length c0,.int .i64 a1] w fun e w'=>e=.returned (.int .i64 r)∧Yf w w':=by
 have aX:=Xa.mk hr0;have gD:=Xa.mk hc0;clear hr0 hc0;have H:(Vl.l0 k l0 a1 a1 0)=some r:=h;clear h;have H':=Xa.mk H;clear H
 go_enter Try.func41,Try.ntmps41
 go_wp2
 go_loopg [5,6] k (fun kq v5 v6 w'=>∃ (aC:Int) (dI:Int),v5=.int .i64 aC∧v6=.int .i64 dI∧Xa (Vl.l0 kq l0 a1 aC dI=some r)∧Xa (kq≤k)∧Yf w w')
 case atStart=>exact ⟨(a1),(0),rg_,rg_,H',⟨Nat.le_refl _⟩,by repeat (first|exact Yf.refl _|apply Yf.step)⟩
 case round=>
  clear H';obtain ⟨aC,dI,rfl,rfl,HA,bZ,⟨m1,rfl⟩⟩:=hrel
  cases gk with
  |zero=>exact absurd HA.out (by simp [Vl.l0])
  |succ k1=>
   have H:=HA.out;clear HA;simp only [Vl.l0] at H;by_cases c3:dI<(l0.length:Int)
   ·rw [if_pos c3] at H;have dJ:=decide_eq_true c3;clear c3;by_cases c4:0≤aC
    ·rw [if_pos c4] at H;have iH:=decide_eq_true c4;clear c4;by_cases c5:aC<(l0.length:Int)
     ·rw [if_pos c5] at H;have jE:=decide_eq_true c5;clear c5;by_cases c6:((Xb l0 aC).f0)=7
      ·rw [if_pos c6] at H;have iI:=beq_iff_eq.mpr c6;have jF:=bne_eq_false_iff_eq.mpr c6;clear c6;have H':=Xa.mk H;clear H;have bC:0≤(aC:Int):=of_decide_eq_true (by assumption);have bH:aC<(l0.length:Int):=of_decide_eq_true (by assumption);obtain ⟨cB,fA,dL,dM,dN,dO⟩:=Zv aX.out aC bC bH;cases fA
       replace bC:=eq_true bC;replace bH:=eq_true bH;have fK:0≤(aC:Int):=of_decide_eq_true (by assumption);have fQ:aC<(l0.length:Int):=of_decide_eq_true (by assumption);obtain ⟨gU,jH,hx444_0,hx444_1,hx444_2,hx444_3⟩:=Zv aX.out aC fK fQ;obtain rfl:cB=gU:=(by injection jH);replace fK:=eq_true fK;replace fQ:=eq_true fQ;go_wp2
       go_roundg k1
       case measure=>have:=bZ.out;omega
       case rel=>exact ⟨((Xb l0 aC).f3),(wrap64 (dI+1)),rg_,rg_,H',⟨by have:=bZ.out;omega⟩,by repeat (first|exact Yf.refl _|apply Yf.step)⟩
      ·rw [if_neg c6] at H;have iI:=beq_eq_false_iff_ne.mpr c6;have jF:=bne_iff_ne.mpr c6;obtain rfl:=Option.some.inj H;have bC:0≤(aC:Int):=of_decide_eq_true (by assumption);have bH:aC<(l0.length:Int):=of_decide_eq_true (by assumption);obtain ⟨cB,fA,dL,dM,dN,dO⟩:=Zv aX.out aC bC bH;cases fA
       replace bC:=eq_true bC;replace bH:=eq_true bH;have fM:0≤(aC:Int):=of_decide_eq_true (by assumption);have fT:aC<(l0.length:Int):=of_decide_eq_true (by assumption);obtain ⟨gV,jI,hx445_0,hx445_1,hx445_2,hx445_3⟩:=Zv aX.out aC fM fT;obtain rfl:cB=gV:=(by injection jI);replace fM:=eq_true fM;replace fT:=eq_true fT;go_wp2
       go_ret
       exact ⟨by first|rfl|(simp;done)|(simp [*];done),by repeat (first|exact Yf.refl _|apply Yf.step)⟩
     ·rw [if_neg c5] at H;exact absurd H (by simp)
    ·rw [if_neg c4] at H;exact absurd H (by simp)
   ·rw [if_neg c3] at H;have dJ:=decide_eq_false c3;clear c3;by_cases c7:0≤aC
    ·rw [if_pos c7] at H;have iJ:=decide_eq_true c7;clear c7;by_cases c8:aC<(l0.length:Int)
     ·rw [if_pos c8] at H;replace c8:=decide_eq_true c8;by_cases c9:((Xb l0 aC).f0)=7
      ·rw [if_pos c9] at H;have eX:=beq_iff_eq.mpr c9;have jG:=bne_eq_false_iff_eq.mpr c9;clear c9;obtain rfl:=Option.some.inj H;have bD:0≤(aC:Int):=of_decide_eq_true (by assumption);have bI:aC<(l0.length:Int):=of_decide_eq_true (by assumption);obtain ⟨gW,fB,dP,dQ,dR,dS⟩:=Zv aX.out aC bD bI;cases fB
       replace bD:=eq_true bD;replace bI:=eq_true bI;go_wp2
       go_ret
       exact ⟨by first|rfl|(simp;done)|(simp [*];done),by repeat (first|exact Yf.refl _|apply Yf.step)⟩
      ·rw [if_neg c9] at H;have eX:=beq_eq_false_iff_ne.mpr c9;have jG:=bne_iff_ne.mpr c9;obtain rfl:=Option.some.inj H;have bD:0≤(aC:Int):=of_decide_eq_true (by assumption);have bI:aC<(l0.length:Int):=of_decide_eq_true (by assumption);obtain ⟨gW,fB,dP,dQ,dR,dS⟩:=Zv aX.out aC bD bI;cases fB
       replace bD:=eq_true bD;replace bI:=eq_true bI;go_wp2
       go_ret
       exact ⟨by first|rfl|(simp;done)|(simp [*];done),by repeat (first|exact Yf.refl _|apply Yf.step)⟩
     ·rw [if_neg c8] at H;exact absurd H (by simp)
    ·rw [if_neg c7] at H;exact absurd H (by simp)
def Yx.l0:Nat→List (S31)→List (S31)→Int→Option ((List (S31)))
 |0,_,_,_=>none
 |k+1,x0,x3,x4=>if x4<(x3.length:Int) then (if 0≤x4 then (if ((Xb x3 x4).f0)=7 then (if x4<(x0.length:Int) then ((Vl.f k x0 ((Xb x0 x4).f3)).bind fun aV=>(Yx.l0 k x0 (x3.set (x4:Int).toNat (⟨(Xb x3 x4).f0,(Xb x3 x4).f1,(Xb x3 x4).f2,aV⟩:S31)) (wrap64 (x4+1)))) else (none)) else (if ((Xb x3 x4).f0)=6 then (if x4<(x0.length:Int) then ((Vl.f k x0 ((Xb x0 x4).f3)).bind fun aW=>(Yx.l0 k x0 (x3.set (x4:Int).toNat (⟨(Xb x3 x4).f0,(Xb x3 x4).f1,(Xb x3 x4).f2,aW⟩:S31)) (wrap64 (x4+1)))) else (none)) else (Yx.l0 k x0 x3 (wrap64 (x4+1))))) else (none)) else (some x3)
def Yx.f (k:Nat) (l0:List (S31)):Option ((List (S31))):=(Yb.f k l0).bind fun bY=>(if bY=true then ((some (([]:List (S31)):List (S31))).bind fun aH=>(if aH.length+l0.length<4398046511104 then (Yx.l0 k l0 (aH ++ l0) 0) else (none))) else (some (([]:List (S31)))))
theorem Yx.calls (k:Nat) (A0:Option Addr) (c0:Nat) (l0:List (S31)) (r:List (S31)) (w:World) (hr0:Kd.C k31 w A0 l0.length l0) (hc0:l0.length≤c0) (h:Yx.f k l0=some r) :
  Calls Try.prog 21 #[.slice A0 l0.length c0] w fun e w'=>∃ kC:Value,e=.returned (kC)∧Kd.R k31 31 w' w.heap.size (fun _=>True) kC r∧Below w.heap.size w w':=by
 have aX:=Xa.mk hr0;have gD:=Xa.mk hc0;clear hr0 hc0;have HB:=Xa.mk (Below.refl w.heap.size w);have H:((Yb.f k l0).bind fun bY=>(if bY=true then ((some (([]:List (S31)):List (S31))).bind fun aH=>(if aH.length+l0.length<4398046511104 then (Yx.l0 k l0 (aH ++ l0) 0) else (none))) else (some (([]:List (S31))))))=some r:=h;clear h;replace H:=Option.bind_eq_some_iff.mp H;obtain ⟨bY,jA,H⟩:=H;replace H:(if bY=true then ((some (([]:List (S31)):List (S31))).bind fun aH=>(if aH.length+l0.length<4398046511104 then (Yx.l0 k l0 (aH ++ l0) 0) else (none))) else (some (([]:List (S31)))))=some r:=H;have A2:=Xa.mk jA;clear jA;by_cases c3:bY=true
 ·subst c3
  replace H:((some (([]:List (S31)):List (S31))).bind fun aH=>(if aH.length+l0.length<4398046511104 then (Yx.l0 k l0 (aH ++ l0) 0) else (none)))=some r:=(by rw [if_pos rfl] at H;exact H);obtain ⟨aH,dE⟩:∃ y_:List (S31),y_=(([]:List (S31))):=⟨_,rfl⟩
  replace H:(if aH.length+l0.length<4398046511104 then (Yx.l0 k l0 (aH ++ l0) 0) else (none))=some r:=by subst dE;first|with_reducible exact H|(have z:=(Option.bind_some _ _).symm.trans H;with_reducible exact z)|exact H
  have eG:=Xa.mk dE;clear dE;by_cases c4:aH.length+l0.length<4398046511104
  ·rw [if_pos c4] at H;have jD:=Xa.mk c4;clear c4;obtain ⟨iZ,dF⟩:∃ y_:List (S31),y_=(aH ++ l0):=⟨_,rfl⟩
   replace H:(Yx.l0 k l0 iZ 0)=some r:=by subst dF;first|with_reducible exact H|(have z:=(Option.bind_some _ _).symm.trans H;with_reducible exact z)|exact H
   have gP:=Xa.mk dF;clear dF;have H':=Xa.mk H;clear H
   go_enter Try.func21,Try.ntmps21
   go_wp2_with (first|((with_reducible refine Xh (f:=19) rfl ?_);refine Ye (some 6) rfl rfl Try.func19 (by kernel_rfl) rfl #[.slice A0 l0.length c0] rfl ga_ ?_;(with_reducible refine (Yb.calls k _ _ l0 true _ ?side1 ?side2 A2.out).mono ?_);(case side1=>exact Kd.ca_ aX.out);(case side2=>exact gD.out);rintro e w5 ⟨rfl,hb⟩;refine ⟨_,rfl,?_⟩;replace HB:=Xa.mk (Xe (bl_ HB) hb);clear hb)|((with_reducible refine Xt (N:=9) rfl ?_);refine Kd.Vo k31 _ 31 ?hg (N:=9) ?hd (xs:=([]:List (S31))) (inner:=[]) (ok:=fun _=>True) (okp:=fun _=>True) ?hr ?hp (fun _ hk=>hk) trivial (Below.refl _ _) (Nat.le_refl _) (by simp) ?_;(case hd|hg=>rfl);(case hr=>exact hr_);(case hp=>exact (Yj.none _ _));intro jY w6 iV hb jT dB;clear jT dB;(first|rw [← eG.out] at iV|(simp only [Int.reduceToNat] at iV;rw [← eG.out] at iV));have eD:=Xa.mk (Kd.Yi iV (Xd (bl_ HB)));replace HB:=Xa.mk (Xe (bl_ HB) hb);clear hb iV)|((with_reducible refine Yp (b:=.append) (xs:=#[.tmp 9,.tmp 10]) rfl ?_);at_builtin;refine Kd.Vx k31 (w0:=w) w.heap.size rfl (.tmp 9) (.tmp 10) 25 31 (.agg #[(.int .i64 0),(.int .i64 0),(.int .i64 0),(.int .i64 0)]) 32 rfl Try.underlying25 info31 rfl (by decide) (by omega) jY aH l0 _ _ _ (fun _=>True) (fun _=>False) rfl rfl ?aO ?aR (fun _ _ h=>h) (fun _ h=>h.elim) ?aF ?aB ?aS ?aL ?_;(case aR=>exact Kd.ca_ (Kd.Ze aX.out HB.out));(case aB=>exact (bl_ HB));(case aF=>exact (fun _ _=>trivial));(case aO=>exact (Kd.ra_ (eD.out)));(case aS=>exact (Xd (bl_ HB)));(case aL=>have:=jD.out;omega);intro jZ w8 ho hb hg hat;rw [← gP.out] at ho;replace HB:=Xa.mk (hb);have gK:=Xa.mk (ho);clear eD ho hb hg hat))
   go_loopg [4] k (fun kq v4 w'=>∃ (aD:List (S31)) (aA:Int),v4=.int .i64 aA∧Xa (Yx.l0 kq l0 aD aA=some r)∧Xa (kq≤k)∧Xa (Kd.R k31 31 w' w.heap.size (fun _=>True) jZ aD)∧Xa (Below w.heap.size w w'))
   case atStart=>exact ⟨(iZ),(0),rg_,H',⟨Nat.le_refl _⟩,⟨Kd.ra_ (gK.out)⟩,⟨bl_ HB⟩⟩
   case round=>
    clear H'
    try clear c3
    try clear c4
    obtain ⟨aD,aA,rfl,HA,bZ,aG,HB⟩:=hrel
    cases gk with
    |zero=>exact absurd HA.out (by simp [Yx.l0])
    |succ k1=>
     have H:=HA.out;clear HA;simp only [Yx.l0] at H;by_cases c9:aA<(aD.length:Int)
     ·rw [if_pos c9] at H;have eX:=decide_eq_true c9;clear c9;by_cases c10:0≤aA
      ·rw [if_pos c10] at H;replace c10:=decide_eq_true c10;by_cases c11:((Xb aD aA).f0)=7
       ·rw [if_pos c11] at H;have iB:=beq_iff_eq.mpr c11;have iC:=bne_eq_false_iff_eq.mpr c11;clear c11;by_cases c12:aA<(l0.length:Int)
        ·rw [if_pos c12] at H;replace c12:=decide_eq_true c12;replace H:=Option.bind_eq_some_iff.mp H;obtain ⟨aV,gF,H⟩:=H;replace H:(Yx.l0 k1 l0 (aD.set (aA:Int).toNat (⟨(Xb aD aA).f0,(Xb aD aA).f1,(Xb aD aA).f2,aV⟩:S31)) (wrap64 (aA+1)))=some r:=H;have kD:=Xa.mk gF;clear gF;obtain ⟨fZ,dG⟩:∃ y_:List (S31),y_=(aD.set (aA:Int).toNat (⟨(Xb aD aA).f0,(Xb aD aA).f1,(Xb aD aA).f2,aV⟩:S31)):=⟨_,rfl⟩
         replace H:(Yx.l0 k1 l0 fZ (wrap64 (aA+1)))=some r:=by subst dG;first|with_reducible exact H|(have z:=(Option.bind_some _ _).symm.trans H;with_reducible exact z)|exact H
         have gQ:=Xa.mk dG;clear dG;have H':=Xa.mk H;clear H;obtain ⟨Ao15,eY,jN⟩:=Kd.Yo aG.out;subst jN;have aQ:0≤(aA:Int):=of_decide_eq_true (by assumption);have aT:aA<(aD.length:Int):=of_decide_eq_true (by assumption);obtain ⟨aU,cO,aK,aM,aN,aP⟩:=Zv (Kd.R_reads' aG.out).2.2 aA aQ aT;cases cO
         replace aQ:=eq_true aQ;replace aT:=eq_true aT;have fO:0≤(aA:Int):=of_decide_eq_true (by assumption);have fU:aA<(l0.length:Int):=of_decide_eq_true (by assumption);obtain ⟨gX,jJ,bM,bN,bO,bP⟩:=Zv aX.out aA fO fU;cases jJ
         replace bM:=bw_ HB bM;replace bN:=bw_ HB bN;replace bO:=bw_ HB bO;replace bP:=bw_ HB bP;replace fO:=eq_true fO;replace fU:=eq_true fU;go_wp2_with (first|((with_reducible refine Xh (f:=41) rfl ?_);refine Ye (some 40) rfl rfl Try.func41 (by kernel_rfl) rfl #[.slice (some gX) l0.length c0,.int .i64 ((Xb l0 aA).f3)] rfl ga_ ?_;(with_reducible refine (Vl.calls k1 _ _ l0 ((Xb l0 aA).f3) aV _ ?side1 ?side2 kD.out).mono ?_);(case side1=>exact Kd.ca_ (Kd.Ze aX.out HB.out));(case side2=>exact gD.out);rintro e w' ⟨rfl,⟨nd,rfl⟩⟩;refine ⟨_,rfl,?_⟩;(try (rw [drewN_self wr];generalize fH:World.drewN wr _=wr;have iX:Xa (Kd.R k31 31 wr w.heap.size (fun _=>True) (.slice (some aU) aD.length eY) aD):=⟨by rw [← fH];exact (Kd.ra_ (aG.out))⟩;have iY:Xa (Below w.heap.size w wr):=⟨by rw [← fH];exact (bl_ HB)⟩;clear aG HB fH;have aG:=iX;have HB:=iY;clear iX iY));have jU:0≤(aA:Int):=of_decide_eq_true (by assumption);have jW:(aA:Int)<((aD.length:Int):Int):=of_decide_eq_true (by assumption);obtain ⟨aI,co14,iK,iM,jR,cl14,gH⟩:=Kd.R_form aG.out (by omega);(first|cases iK|(injection iK with dK jM jL;(first|subst dK|(injection dK with dK;subst dK));subst jL;clear jM));have jB:=Xa.mk iM;have GG14:=Xa.mk gH;clear iM jR gH;(first|simp only [add_plain] at aK|skip);(first|simp only [add_plain] at aM|skip);(first|simp only [add_plain] at aN|skip);(first|simp only [add_plain] at aP|skip);obtain ⟨ce14,iT,iO,aY,bA⟩:=Kd.R_elem aG.out z31 (aA:Int) jU jW;obtain rfl:=k31_openM iO;have hx14_0:wr.cell? ⟨aI,(aA:Int).toNat * 4,none⟩=some (.int .i64 ((Xb aD aA).f0)):=aY 0 _ rfl;have hx14_1:wr.cell? ⟨aI,(aA:Int).toNat * 4+1,none⟩=some (.int .i64 ((Xb aD aA).f1)):=aY 1 _ rfl;have hx14_2:wr.cell? ⟨aI,(aA:Int).toNat * 4+2,none⟩=some (.int .i64 ((Xb aD aA).f2)):=aY 2 _ rfl;have hx14_3:wr.cell? ⟨aI,(aA:Int).toNat * 4+3,none⟩=some (.int .i64 ((Xb aD aA).f3)):=aY 3 _ rfl;have hf14_0:wr.frozen? ⟨aI,(aA:Int).toNat * 4,none⟩=false:=bA 0;have hf14_1:wr.frozen? ⟨aI,(aA:Int).toNat * 4+1,none⟩=false:=bA 1;have hf14_2:wr.frozen? ⟨aI,(aA:Int).toNat * 4+2,none⟩=false:=bA 2;have hf14_3:wr.frozen? ⟨aI,(aA:Int).toNat * 4+3,none⟩=false:=bA 3;clear iT aY bA;(try clear iO);replace jU:=eq_true jU;replace jW:=eq_true jW;have gM:=Xa.mk (show Kd.R k31 31 wr w.heap.size (fun _=>True) (.slice (some ⟨aI,0,none⟩) aD.length eY) aD from (Kd.ra_ (aG.out)));obtain ⟨ce16,eH,iP,cZ,eP⟩:=Kd.R_elem gM.out z31 (aA:Int) (of_decide_eq_true (by assumption)) (by have h_:(aA:Int)<((aD.length:Int):Int):=of_decide_eq_true (by assumption);first|exact h_|(have e_:=(Kd.R_reads' aG.out).1;omega)|simpa using h_);obtain rfl:=k31_openM iP;have eT:=Kd.R_seg gM.out (aA:Int) (of_decide_eq_true (by assumption)) (by have h_:(aA:Int)<((aD.length:Int):Int):=of_decide_eq_true (by assumption);first|exact h_|(have e_:=(Kd.R_reads' aG.out).1;omega)|simpa using h_) (seg:=[.int .i64 aV]) (j:=3) eH cZ (show 4≤4 from by decide) (x':=(⟨(Xb aD aA).f0,(Xb aD aA).f1,(Xb aD aA).f2,aV⟩:S31)) (Vg _ _ _ (⟨(Xb aD aA).f0,(Xb aD aA).f1,(Xb aD aA).f2,aV⟩:S31) ) (fun _ hk=>hk);have fI:=cZ 3 _ rfl;(try simp only [show (k31).sz=4 from rfl,Nat.mul_one,Nat.add_zero] at fI);have fF:=eP 3;(try simp only [show (k31).sz=4 from rfl,Nat.mul_one,Nat.add_zero] at fF);clear eH cZ eP;(try clear iP))|((with_reducible refine Vn (t:=3) (p:=42) rfl ?_);refine Ve (t:=3) (p:=42) (v:=?vo_w17) (w1:=(wr.setCell ⟨aI,(aA:Int).toNat * 4+3,none⟩ (.int .i64 aV))) ?hg ?ho ?hn ?hr ?_;(case ho=>rfl);(case hg=>rfl);(case hn=>rfl);(case hr=>exact hr_);intro j4 hw;have hg:wr.grownBy j4 (some aI):=(by rw [hw];exact eT.2);have iW:Kd.R k31 31 j4 w.heap.size (fun _=>True) (.slice (some ⟨aI,0,none⟩) aD.length eY) fZ:=(by rw [hw,gQ.out];exact eT.1);clear eT;replace aG:=Xa.mk (iW);replace HB:=Xa.mk ((by rw [hw];exact Vk (HB.out) jB.out:Below w.heap.size w j4));clear hg hw iW))
         go_roundg k1
         case measure=>have:=bZ.out;omega
         case rel=>exact ⟨(fZ),(wrap64 (aA+1)),rg_,H',⟨by have:=bZ.out;omega⟩,⟨Kd.ra_ (aG.out)⟩,⟨bl_ HB⟩⟩
        ·rw [if_neg c12] at H;exact absurd H (by simp)
       ·rw [if_neg c11] at H;have iB:=beq_eq_false_iff_ne.mpr c11;have iC:=bne_iff_ne.mpr c11;by_cases c18:((Xb aD aA).f0)=6
        ·rw [if_pos c18] at H;have iD:=beq_iff_eq.mpr c18;have iE:=bne_eq_false_iff_eq.mpr c18;clear c18;by_cases c19:aA<(l0.length:Int)
         ·rw [if_pos c19] at H;replace c19:=decide_eq_true c19;replace H:=Option.bind_eq_some_iff.mp H;obtain ⟨aW,gG,H⟩:=H;replace H:(Yx.l0 k1 l0 (aD.set (aA:Int).toNat (⟨(Xb aD aA).f0,(Xb aD aA).f1,(Xb aD aA).f2,aW⟩:S31)) (wrap64 (aA+1)))=some r:=H;have jA:=Xa.mk gG;clear gG;obtain ⟨gB,dH⟩:∃ y_:List (S31),y_=(aD.set (aA:Int).toNat (⟨(Xb aD aA).f0,(Xb aD aA).f1,(Xb aD aA).f2,aW⟩:S31)):=⟨_,rfl⟩
          replace H:(Yx.l0 k1 l0 gB (wrap64 (aA+1)))=some r:=by subst dH;first|with_reducible exact H|(have z:=(Option.bind_some _ _).symm.trans H;with_reducible exact z)|exact H
          have gT:=Xa.mk dH;clear dH;have H':=Xa.mk H;clear H;obtain ⟨Ao22,eZ,jO⟩:=Kd.Yo aG.out;subst jO;have aQ:0≤(aA:Int):=of_decide_eq_true (by assumption);have aT:aA<(aD.length:Int):=of_decide_eq_true (by assumption);obtain ⟨aU,cO,aK,aM,aN,aP⟩:=Zv (Kd.R_reads' aG.out).2.2 aA aQ aT;cases cO
          replace aQ:=eq_true aQ;replace aT:=eq_true aT;have bE:0≤(aA:Int):=of_decide_eq_true (by assumption);have bJ:aA<(aD.length:Int):=of_decide_eq_true (by assumption);obtain ⟨cK,fC,bQ,bR,bS,bT⟩:=Zv (Kd.R_reads' aG.out).2.2 aA bE bJ;obtain rfl:aU=cK:=(by injection fC);replace bE:=eq_true bE;replace bJ:=eq_true bJ;have fP:0≤(aA:Int):=of_decide_eq_true (by assumption);have fV:aA<(l0.length:Int):=of_decide_eq_true (by assumption);obtain ⟨gY,jK,bU,bV,bW,bX⟩:=Zv aX.out aA fP fV;cases jK
          replace bU:=bw_ HB bU;replace bV:=bw_ HB bV;replace bW:=bw_ HB bW;replace bX:=bw_ HB bX;replace fP:=eq_true fP;replace fV:=eq_true fV;go_wp2_with (first|((with_reducible refine Xh (f:=41) rfl ?_);refine Ye (some 40) rfl rfl Try.func41 (by kernel_rfl) rfl #[.slice (some gY) l0.length c0,.int .i64 ((Xb l0 aA).f3)] rfl ga_ ?_;(with_reducible refine (Vl.calls k1 _ _ l0 ((Xb l0 aA).f3) aW _ ?side1 ?side2 jA.out).mono ?_);(case side1=>exact Kd.ca_ (Kd.Ze aX.out HB.out));(case side2=>exact gD.out);rintro e w' ⟨rfl,⟨nd,rfl⟩⟩;refine ⟨_,rfl,?_⟩;(try (rw [drewN_self wr];generalize fH:World.drewN wr _=wr;have iX:Xa (Kd.R k31 31 wr w.heap.size (fun _=>True) (.slice (some aU) aD.length eZ) aD):=⟨by rw [← fH];exact (Kd.ra_ (aG.out))⟩;have iY:Xa (Below w.heap.size w wr):=⟨by rw [← fH];exact (bl_ HB)⟩;clear aG HB fH;have aG:=iX;have HB:=iY;clear iX iY));have jV:0≤(aA:Int):=of_decide_eq_true (by assumption);have jX:(aA:Int)<((aD.length:Int):Int):=of_decide_eq_true (by assumption);obtain ⟨aJ,co21,iL,iN,jS,cl21,gI⟩:=Kd.R_form aG.out (by omega);(first|cases iL|(injection iL with dK jM jL;(first|subst dK|(injection dK with dK;subst dK));subst jL;clear jM));have jC:=Xa.mk iN;have GG21:=Xa.mk gI;clear iN jS gI;(first|simp only [add_plain] at aK|skip);(first|simp only [add_plain] at aM|skip);(first|simp only [add_plain] at aN|skip);(first|simp only [add_plain] at aP|skip);(first|simp only [add_plain] at bQ|skip);(first|simp only [add_plain] at bR|skip);(first|simp only [add_plain] at bS|skip);(first|simp only [add_plain] at bT|skip);obtain ⟨ce21,iU,iQ,aZ,bB⟩:=Kd.R_elem aG.out z31 (aA:Int) jV jX;obtain rfl:=k31_openM iQ;have hx21_0:wr.cell? ⟨aJ,(aA:Int).toNat * 4,none⟩=some (.int .i64 ((Xb aD aA).f0)):=aZ 0 _ rfl;have hx21_1:wr.cell? ⟨aJ,(aA:Int).toNat * 4+1,none⟩=some (.int .i64 ((Xb aD aA).f1)):=aZ 1 _ rfl;have hx21_2:wr.cell? ⟨aJ,(aA:Int).toNat * 4+2,none⟩=some (.int .i64 ((Xb aD aA).f2)):=aZ 2 _ rfl;have hx21_3:wr.cell? ⟨aJ,(aA:Int).toNat * 4+3,none⟩=some (.int .i64 ((Xb aD aA).f3)):=aZ 3 _ rfl;have hf21_0:wr.frozen? ⟨aJ,(aA:Int).toNat * 4,none⟩=false:=bB 0;have hf21_1:wr.frozen? ⟨aJ,(aA:Int).toNat * 4+1,none⟩=false:=bB 1;have hf21_2:wr.frozen? ⟨aJ,(aA:Int).toNat * 4+2,none⟩=false:=bB 2;have hf21_3:wr.frozen? ⟨aJ,(aA:Int).toNat * 4+3,none⟩=false:=bB 3;clear iU aZ bB;(try clear iQ);replace jV:=eq_true jV;replace jX:=eq_true jX;have gN:=Xa.mk (show Kd.R k31 31 wr w.heap.size (fun _=>True) (.slice (some ⟨aJ,0,none⟩) aD.length eZ) aD from (Kd.ra_ (aG.out)));obtain ⟨ce23,eO,iR,dA,eQ⟩:=Kd.R_elem gN.out z31 (aA:Int) (of_decide_eq_true (by assumption)) (by have h_:(aA:Int)<((aD.length:Int):Int):=of_decide_eq_true (by assumption);first|exact h_|(have e_:=(Kd.R_reads' aG.out).1;omega)|simpa using h_);obtain rfl:=k31_openM iR;have eU:=Kd.R_seg gN.out (aA:Int) (of_decide_eq_true (by assumption)) (by have h_:(aA:Int)<((aD.length:Int):Int):=of_decide_eq_true (by assumption);first|exact h_|(have e_:=(Kd.R_reads' aG.out).1;omega)|simpa using h_) (seg:=[.int .i64 aW]) (j:=3) eO dA (show 4≤4 from by decide) (x':=(⟨(Xb aD aA).f0,(Xb aD aA).f1,(Xb aD aA).f2,aW⟩:S31)) (Vg _ _ _ (⟨(Xb aD aA).f0,(Xb aD aA).f1,(Xb aD aA).f2,aW⟩:S31) ) (fun _ hk=>hk);have fJ:=dA 3 _ rfl;(try simp only [show (k31).sz=4 from rfl,Nat.mul_one,Nat.add_zero] at fJ);have fG:=eQ 3;(try simp only [show (k31).sz=4 from rfl,Nat.mul_one,Nat.add_zero] at fG);clear eO dA eQ;(try clear iR))|((with_reducible refine Vn (t:=3) (p:=42) rfl ?_);refine Ve (t:=3) (p:=42) (v:=?vo_w24) (w1:=(wr.setCell ⟨aJ,(aA:Int).toNat * 4+3,none⟩ (.int .i64 aW))) ?hg ?ho ?hn ?hr ?_;(case ho=>rfl);(case hg=>rfl);(case hn=>rfl);(case hr=>exact hr_);intro j5 hw;have hg:wr.grownBy j5 (some aJ):=(by rw [hw];exact eU.2);have iW:Kd.R k31 31 j5 w.heap.size (fun _=>True) (.slice (some ⟨aJ,0,none⟩) aD.length eZ) gB:=(by rw [hw,gT.out];exact eU.1);clear eU;replace aG:=Xa.mk (iW);replace HB:=Xa.mk ((by rw [hw];exact Vk (HB.out) jC.out:Below w.heap.size w j5));clear hg hw iW))
          go_roundg k1
          case measure=>have:=bZ.out;omega
          case rel=>exact ⟨(gB),(wrap64 (aA+1)),rg_,H',⟨by have:=bZ.out;omega⟩,⟨Kd.ra_ (aG.out)⟩,⟨bl_ HB⟩⟩
         ·rw [if_neg c19] at H;exact absurd H (by simp)
        ·rw [if_neg c18] at H;have iD:=beq_eq_false_iff_ne.mpr c18;have iE:=bne_iff_ne.mpr c18;have H':=Xa.mk H;clear H;obtain ⟨Ao25,co25,jP⟩:=Kd.Yo aG.out;subst jP;have aQ:0≤(aA:Int):=of_decide_eq_true (by assumption);have aT:aA<(aD.length:Int):=of_decide_eq_true (by assumption);obtain ⟨aU,cO,aK,aM,aN,aP⟩:=Zv (Kd.R_reads' aG.out).2.2 aA aQ aT;cases cO
         replace aQ:=eq_true aQ;replace aT:=eq_true aT;have bE:0≤(aA:Int):=of_decide_eq_true (by assumption);have bJ:aA<(aD.length:Int):=of_decide_eq_true (by assumption);obtain ⟨cK,fC,bQ,bR,bS,bT⟩:=Zv (Kd.R_reads' aG.out).2.2 aA bE bJ;obtain rfl:aU=cK:=(by injection fC);replace bE:=eq_true bE;replace bJ:=eq_true bJ;go_wp2
         go_roundg k1
         case measure=>have:=bZ.out;omega
         case rel=>exact ⟨(aD),(wrap64 (aA+1)),rg_,H',⟨by have:=bZ.out;omega⟩,⟨Kd.ra_ (aG.out)⟩,⟨bl_ HB⟩⟩
      ·rw [if_neg c10] at H;exact absurd H (by simp)
     ·rw [if_neg c9] at H;have eX:=decide_eq_false c9;clear c9;obtain rfl:=Option.some.inj H;obtain ⟨Ao26,co26,jQ⟩:=Kd.Yo aG.out;subst jQ;go_wp2
      go_ret
      exact ⟨_,rf_,Kd.ra_ (aG.out),bl_ HB⟩
  ·rw [if_neg c4] at H;exact absurd H (by simp)
 ·replace c3:=Bool.eq_false_iff.mpr c3;subst c3
  replace H:(some (([]:List (S31))))=some r:=(by rw [if_neg (show ¬ (false=true) by decide)] at H;exact H);obtain ⟨j6,dD⟩:∃ y_:List (S31),y_=(([]:List (S31))):=⟨_,rfl⟩
  replace H:(some j6)=some r:=by subst dD;first|with_reducible exact H|(have z:=(Option.bind_some _ _).symm.trans H;with_reducible exact z)|exact H
  have eF:=Xa.mk dD;clear dD;obtain rfl:=Option.some.inj H
  go_enter Try.func21,Try.ntmps21
  go_wp2_with (first|((with_reducible refine Xh (f:=19) rfl ?_);refine Ye (some 6) rfl rfl Try.func19 (by kernel_rfl) rfl #[.slice A0 l0.length c0] rfl ga_ ?_;(with_reducible refine (Yb.calls k _ _ l0 false _ ?side1 ?side2 A2.out).mono ?_);(case side1=>exact Kd.ca_ aX.out);(case side2=>exact gD.out);rintro e w27 ⟨rfl,hb⟩;refine ⟨_,rfl,?_⟩;replace HB:=Xa.mk (Xe (bl_ HB) hb);clear hb)|((with_reducible refine Xt (N:=8) rfl ?_);refine Kd.Vo k31 _ 31 ?hg (N:=8) ?hd (xs:=([]:List (S31))) (inner:=[]) (ok:=fun _=>True) (okp:=fun _=>True) ?hr ?hp (fun _ hk=>hk) trivial (Below.refl _ _) (Nat.le_refl _) (by simp) ?_;(case hd|hg=>rfl);(case hr=>exact hr_);(case hp=>exact (Yj.none _ _));intro v449 w28 dC hb jT dB;clear jT dB;(first|rw [← eF.out] at dC|(simp only [Int.reduceToNat] at dC;rw [← eF.out] at dC));have gJ:=Xa.mk (Kd.Yi dC (Xd (bl_ HB)));replace HB:=Xa.mk (Xe (bl_ HB) hb);clear hb dC))
  go_ret
  exact ⟨_,rf_,Kd.ra_ (gJ.out),bl_ HB⟩
def Zt.l0:Nat→List (S31)→List (S31)→Int→Option (Bool)
 |0,_,_,_=>none
 |k+1,x0,x1,x5=>if x5<(x0.length:Int) then (if 0≤x5 then (if x5<(x1.length:Int) then (if (!(((Xb x0 x5).f0) == ((Xb x1 x5).f0))||(!(((Xb x0 x5).f1) == ((Xb x1 x5).f1))||(!(((Xb x0 x5).f2) == ((Xb x1 x5).f2))||(!(((Xb x0 x5).f3) == ((Xb x1 x5).f3))))))=true then (some false) else (Zt.l0 k x0 x1 (wrap64 (x5+1)))) else (none)) else (none)) else (some true)
def Zt.f (k:Nat) (l0:List (S31)) (l1:List (S31)):Option (Bool):=if (l0.length:Int)=(l1.length:Int) then (Zt.l0 k l0 l1 0) else (some false)
theorem Zt.calls (k:Nat) (A0:Option Addr) (c0:Nat) (l0:List (S31)) (A1:Option Addr) (c1:Nat) (l1:List (S31)) (r:Bool) (w:World) (hr0:Kd.C k31 w A0 l0.length l0) (hc0:l0.length≤c0) (hr1:Kd.C k31 w A1 l1.length l1) (hc1:l1.length≤c1) (h:Zt.f k l0 l1=some r) :
  Calls Try.prog 22 #[.slice A0 l0.length c0,.slice A1 l1.length c1] w fun e w'=>e=.returned (.bool r)∧Yf w w':=by
 have hu31:=Try.underlying31;have aX:=Xa.mk hr0;have gD:=Xa.mk hc0;clear hr0 hc0;have HR1:=Xa.mk hr1;have HC1:=Xa.mk hc1;clear hr1 hc1;have H:(if (l0.length:Int)=(l1.length:Int) then (Zt.l0 k l0 l1 0) else (some false))=some r:=h;clear h;by_cases c3:(l0.length:Int)=(l1.length:Int)
 ·rw [if_pos c3] at H;have dJ:=beq_iff_eq.mpr c3;have iF:=bne_eq_false_iff_eq.mpr c3
  have iG:(l0.length == l1.length)=true:=by first|simpa using c3|(simp at c3 ⊢;omega)
  clear c3;have H':=Xa.mk H;clear H
  go_enter Try.func22,Try.ntmps22
  go_wp2
  repeat (go_quiet (fail);try go_wp2)
  go_loopg [5] k (fun kq v5 w'=>∃ (aC:Int),v5=.int .i64 aC∧Xa (Zt.l0 kq l0 l1 aC=some r)∧Xa (kq≤k)∧Yf w w')
  case atStart=>exact ⟨(0),rg_,H',⟨Nat.le_refl _⟩,by repeat (first|exact Yf.refl _|apply Yf.step)⟩
  case round=>
   clear H'
   try clear c1
   try clear c3
   try clear dJ
   try clear iF
   try clear iG
   obtain ⟨aC,rfl,HA,bZ,⟨m1,rfl⟩⟩:=hrel
   cases gk with
   |zero=>exact absurd HA.out (by simp [Zt.l0])
   |succ k1=>
    have H:=HA.out;clear HA;simp only [Zt.l0] at H;by_cases c4:aC<(l0.length:Int)
    ·rw [if_pos c4] at H;have iH:=decide_eq_true c4;clear c4;by_cases c5:0≤aC
     ·rw [if_pos c5] at H;have jE:=decide_eq_true c5;clear c5;by_cases c6:aC<(l1.length:Int)
      ·rw [if_pos c6] at H;have iI:=decide_eq_true c6;clear c6;by_cases c7:(!(((Xb l0 aC).f0) == ((Xb l1 aC).f0))||(!(((Xb l0 aC).f1) == ((Xb l1 aC).f1))||(!(((Xb l0 aC).f2) == ((Xb l1 aC).f2))||(!(((Xb l0 aC).f3) == ((Xb l1 aC).f3))))))=true
       ·rw [if_pos c7] at H;have iJ:(!(((Xb l0 aC).f0) == ((Xb l1 aC).f0))||(!(((Xb l0 aC).f1) == ((Xb l1 aC).f1))||(!(((Xb l0 aC).f2) == ((Xb l1 aC).f2))||(!(((Xb l0 aC).f3) == ((Xb l1 aC).f3))))))=true:=c7;clear c7;obtain rfl:=Option.some.inj H;have bF:0≤(aC:Int):=of_decide_eq_true (by assumption);have bK:aC<(l0.length:Int):=of_decide_eq_true (by assumption);obtain ⟨gZ,fD,dU,dV,dW,dX⟩:=Zv aX.out aC bF bK;cases fD
        replace bF:=eq_true bF;replace bK:=eq_true bK;have bG:0≤(aC:Int):=of_decide_eq_true (by assumption);have bL:aC<(l1.length:Int):=of_decide_eq_true (by assumption);obtain ⟨iA,fE,dY,dZ,d9,eB⟩:=Zv HR1.out aC bG bL;cases fE
        replace bG:=eq_true bG;replace bL:=eq_true bL;go_wp2
        repeat (go_quiet (fail);try go_wp2)
        go_ret
        exact ⟨by first|rfl|(simp;done)|(simp [*];done),by repeat (first|exact Yf.refl _|apply Yf.step)⟩
       ·rw [if_neg c7] at H
        have iJ:(!(((Xb l0 aC).f0) == ((Xb l1 aC).f0))||(!(((Xb l0 aC).f1) == ((Xb l1 aC).f1))||(!(((Xb l0 aC).f2) == ((Xb l1 aC).f2))||(!(((Xb l0 aC).f3) == ((Xb l1 aC).f3))))))=false:=by simpa using c7
        clear c7;have H':=Xa.mk H;clear H;have bF:0≤(aC:Int):=of_decide_eq_true (by assumption);have bK:aC<(l0.length:Int):=of_decide_eq_true (by assumption);obtain ⟨gZ,fD,dU,dV,dW,dX⟩:=Zv aX.out aC bF bK;cases fD
        replace bF:=eq_true bF;replace bK:=eq_true bK;have bG:0≤(aC:Int):=of_decide_eq_true (by assumption);have bL:aC<(l1.length:Int):=of_decide_eq_true (by assumption);obtain ⟨iA,fE,dY,dZ,d9,eB⟩:=Zv HR1.out aC bG bL;cases fE
        replace bG:=eq_true bG;replace bL:=eq_true bL;go_wp2
        repeat (go_quiet (fail);try go_wp2)
        go_roundg k1
        case measure=>have:=bZ.out;omega
        case rel=>exact ⟨(wrap64 (aC+1)),rg_,H',⟨by have:=bZ.out;omega⟩,by repeat (first|exact Yf.refl _|apply Yf.step)⟩
      ·rw [if_neg c6] at H;exact absurd H (by simp)
     ·rw [if_neg c5] at H;exact absurd H (by simp)
    ·rw [if_neg c4] at H;have iH:=decide_eq_false c4;clear c4;obtain rfl:=Option.some.inj H;go_wp2
     repeat (go_quiet (fail);try go_wp2)
     go_ret
     exact ⟨by first|rfl|(simp;done)|(simp [*];done),by repeat (first|exact Yf.refl _|apply Yf.step)⟩
 ·rw [if_neg c3] at H;have dJ:=beq_eq_false_iff_ne.mpr c3;have iF:=bne_iff_ne.mpr c3
  have iG:(l0.length == l1.length)=false:=by first|simpa using c3|(simp at c3 ⊢;omega)
  obtain rfl:=Option.some.inj H
  go_enter Try.func22,Try.ntmps22
  go_wp2
  repeat (go_quiet (fail);try go_wp2)
  go_ret
  exact ⟨by first|rfl|(simp;done)|(simp [*];done),by repeat (first|exact Yf.refl _|apply Yf.step)⟩
end Go.Proofs.Ytokajnfbiddpjaa.GSlim
