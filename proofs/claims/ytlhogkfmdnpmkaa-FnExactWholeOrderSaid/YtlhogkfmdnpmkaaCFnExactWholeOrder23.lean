import Derived.Test.YtlhogkfmdnpmkaaCFnExactWholeOrder21
set_option maxHeartbeats 8000000
set_option maxRecDepth 100000
namespace Go.Proofs.Ytlhogkfmdnpmkaa.GWhole
open Go.RowKit Go.Proofs.YtlhogkfmdnpmkaaW.PrintWords Go.Proofs.YtlhogkfmdnpmkaaW.PrintLast Go.Proofs.YtlhogkfmdnpmkaaW.PrintMore
attribute [local go_sem] Ui Uk max_two min_two Zx Zy Uj Ul
set_option linter.unusedVariables false
set_option linter.unusedSimpArgs false
mutual
def Ya.l0:Nat→List (S69)→List (S69)→Int→Int→Option ((List (S69)))
 |0,_,_,_,_=>none
 |k+1,x3,x6,x7,x8=>if x8<x7 then (if 0≤x8 then (if x8<(x6.length:Int) then ((Ya.f k ((Xd x6 x8).f4)).bind fun aK=>((Ya.f k ((Xd x6 x8).f5)).bind fun aM=>(if x3.length<1759218604441 then (Ya.l0 k (x3 ++ [(⟨(Xd x6 x8).f0,(Xd x6 x8).f1,(Xd x6 x8).f2,(Xd x6 x8).f3,aK,aM⟩:S69)]) x6 x7 (wrap64 (x8+1))) else (none)))) else (none)) else (none)) else (some x3)
def Ya.f:Nat→List (S69)→Option ((List (S69)))
 |0,_=>none
 |k+1,l0=>Ya.l0 k ([]:List (S69)) l0 (l0.length:Int) 0
end
def Ya.T5:Bool × List (List Nat × List Nat):=(true,[([],[]),([0],[0]),([1],[1]),([],[]),([3],[3]),([4,2],[4]),([0,1,2,3,4],[]),([6,2,5,0,1,2,3,4],[2,6]),([0,1,2,3,4,5,6,7],[]),([8,5,7,0,1,2,3,4,5,6,7],[5,8])])
def Ya.B5:List Nat:=[0,1,3,0,8,31,31,127,255,511]
theorem Ya.tab5:rtab .any (opsOf Try.f41 5)=Ya.T5:=by kernel_rfl
theorem Ya.bits5:waitsOk Ya.T5.2 Ya.B5=true:=by kernel_rfl
theorem Ya.calls (k:Nat):∀ (A0:Option Addr) (c0:Nat) (l0:List (S69)) (r:List (S69)) (w:World) (hr0:Kd.C k69 w A0 l0.length l0) (hc0:l0.length≤c0) (h:Ya.f k l0=some r),
  Calls Try.prog 41 #[.slice A0 l0.length c0] w fun e w'=>∃ fK:Value,e=.returned (fK)∧Kd.R k69 69 w' w.heap.size (fun _=>True) fK r∧Below w.heap.size w w':=by
 induction k using Nat.strongRecOn with
 |_ k ih=>
 intro A0 c0 l0 r w hr0 hc0 h
 cases k with
 |zero=>exact absurd h (by simp [Ya.f])
 |succ k=>
 simp only [Ya.f] at h;have fC:=Try.underlying69;have fO:=Xa.mk hr0;have HC0:=Xa.mk hc0;clear hr0 hc0;have HB:=Xa.mk (Below.refl w.heap.size w);have H:(Ya.l0 k ([]:List (S69)) l0 (l0.length:Int) 0)=some r:=h;clear h;have H':=Xa.mk H;clear H
 go_enter Try.func41,Try.ntmps41
 go_wp2
 go_loopg [3,8] k (fun kq v3 v8 w'=>∃ (bA:List (S69)) (aA:Int),v8=.int .i64 aA∧Xa (Ya.l0 kq bA l0 (l0.length:Int) aA=some r)∧Xa (kq≤k)∧Xa (Kd.R k69 69 w' w.heap.size (fun _=>True) v3 bA)∧Xa (Below w.heap.size w w'))
 case atStart=>exact ⟨(([]:List (S69))),(0),rg_,H',⟨Nat.le_refl _⟩,⟨by first|exact Kd.R_nil _ _ _ _ _|exact Kd.N_nil _ _ _ _ _|exact Kd.V_nil _ _ _ _ _|exact Kd.Q_nil _ _ _ _ _|exact Kd.S_nil _ _ _ _ _⟩,⟨bl_ HB⟩⟩
 case round=>
  clear H';obtain ⟨bA,aA,rfl,HA,eP,aN,HB⟩:=hrel
  cases gk with
  |zero=>exact absurd HA.out (by simp [Ya.l0])
  |succ k1=>
   have H:=HA.out;clear HA;simp only [Ya.l0] at H;by_cases c2:aA<(l0.length:Int)
   ·rw [if_pos c2] at H;have bE:=decide_eq_true c2;clear c2;by_cases c3:0≤aA
    ·rw [if_pos c3] at H;have d9:=decide_eq_true c3;clear c3;by_cases c4:aA<(l0.length:Int)
     ·rw [if_pos c4] at H;have eB:=decide_eq_true c4;clear c4;replace H:=Option.bind_eq_some_iff.mp H;obtain ⟨aK,fG,H⟩:=H;replace H:((Ya.f k1 ((Xd l0 aA).f5)).bind fun aM=>(if bA.length<1759218604441 then (Ya.l0 k1 (bA ++ [(⟨(Xd l0 aA).f0,(Xd l0 aA).f1,(Xd l0 aA).f2,(Xd l0 aA).f3,aK,aM⟩:S69)]) l0 (l0.length:Int) (wrap64 (aA+1))) else (none)))=some r:=H;have A5:=Xa.mk fG;clear fG;replace H:=Option.bind_eq_some_iff.mp H;obtain ⟨aM,fH,H⟩:=H;replace H:(if bA.length<1759218604441 then (Ya.l0 k1 (bA ++ [(⟨(Xd l0 aA).f0,(Xd l0 aA).f1,(Xd l0 aA).f2,(Xd l0 aA).f3,aK,aM⟩:S69)]) l0 (l0.length:Int) (wrap64 (aA+1))) else (none))=some r:=H;have A6:=Xa.mk fH;clear fH;by_cases c7:bA.length<1759218604441
      ·rw [if_pos c7] at H;have eQ:=Xa.mk c7;clear c7;obtain ⟨eO,bY⟩:∃ y_:List (S69),y_=(bA ++ [(⟨(Xd l0 aA).f0,(Xd l0 aA).f1,(Xd l0 aA).f2,(Xd l0 aA).f3,aK,aM⟩:S69)]):=⟨_,rfl⟩
       replace H:(Ya.l0 k1 eO l0 (l0.length:Int) (wrap64 (aA+1)))=some r:=by subst bY;first|with_reducible exact H|(have z:=(Option.bind_some _ _).symm.trans H;with_reducible exact z)|exact H
       have dZ:=Xa.mk bY;clear bY;have H':=Xa.mk H;clear H;have dW:0≤(aA:Int):=of_decide_eq_true (by assumption);have dX:aA<(l0.length:Int):=of_decide_eq_true (by assumption);obtain ⟨ad108,aG,aI,aH,aJ,e108,bJ,bK,bL,bM,bN,bO,bH,bF,bI,bG⟩:=at_T69 fO.out aA dW dX;cases e108
       replace bJ:=bw_ HB bJ;replace bK:=bw_ HB bK;replace bL:=bw_ HB bL;replace bM:=bw_ HB bM;replace bN:=bw_ HB bN;replace bO:=bw_ HB bO;have cK:=Xa.mk bF;have bZ:=Xa.mk bH;clear bF bH;have cO:=Xa.mk bG;have cB:=Xa.mk bI;clear bG bI;replace dW:=eq_true dW;replace dX:=eq_true dX
       try go_wp2_with (first|((with_reducible refine Zh (N:=5) rfl ?_);refine Zg ?hg (N:=5) ?hd (cs:=#[.int .i64 0,.int .i64 0,.int .i64 0,.int .i64 0,.slice none 0 0,.slice none 0 0]) (t:=69) ?hr ?_;(case hd|hg=>rfl);(case hr=>exact hr_);intro aC hg w8 hbox hb;replace aN:=Xa.mk (Kd.Xx (Kd.R_elderB (Kd.ra_ (aN.out)) aC (Nat.le_of_eq hg.symm)) hb);have aD:=Xa.mk (hbox);have GW109:=Xa.mk ((ge_ hg (Xf (bl_ HB)):w.heap.size≤aC));have GE109:=Xa.mk ((ge_ hg (Xf (bl_ HB)):w.heap.size≤aC));replace HB:=Xa.mk (Xe (bl_ HB) hb);clear hb hbox hg;obtain ⟨dG,dH,dI,dJ,dK,dL⟩:=Zt aD.out;obtain ⟨dM,dN,dO,dP,dQ,dR⟩:=Zu aD.out))
       have dS:Xa (Kd.R k69 69 ((((((w8.setCell ⟨aC,0,none⟩ (.int .i64 ((Xd l0 aA).f0))).setCell ⟨aC,1,none⟩ (.int .i64 ((Xd l0 aA).f1))).setCell ⟨aC,2,none⟩ (.int .i64 ((Xd l0 aA).f2))).setCell ⟨aC,3,none⟩ (.int .i64 ((Xd l0 aA).f3))).setCell ⟨aC,4,none⟩ (.slice aG ((Xd l0 aA).f4).length aI)).setCell ⟨aC,5,none⟩ (.slice aH ((Xd l0 aA).f5).length aJ)) w.heap.size (fun k_=>k_≠aC) u3 bA):=⟨Kd.ra_ (Kd.Yw (Kd.R_far (p:=⟨aC,5,none⟩) (Kd.R_far (p:=⟨aC,4,none⟩) (Kd.R_far (p:=⟨aC,3,none⟩) (Kd.R_far (p:=⟨aC,2,none⟩) (Kd.R_far (p:=⟨aC,1,none⟩) (Kd.R_far (p:=⟨aC,0,none⟩) (Kd.Yw aN.out (fun k_ hk=>(⟨hk,hk.2⟩:_∧k_≠aC))) (fun _ hk=>hk.2) (.int .i64 ((Xd l0 aA).f0))) (fun _ hk=>hk.2) (.int .i64 ((Xd l0 aA).f1))) (fun _ hk=>hk.2) (.int .i64 ((Xd l0 aA).f2))) (fun _ hk=>hk.2) (.int .i64 ((Xd l0 aA).f3))) (fun _ hk=>hk.2) (.slice aG ((Xd l0 aA).f4).length aI)) (fun _ hk=>hk.2) (.slice aH ((Xd l0 aA).f5).length aJ)) (fun _ hk=>hk.1.2))⟩;have dU:Xa (((((((w8.setCell ⟨aC,0,none⟩ (.int .i64 ((Xd l0 aA).f0))).setCell ⟨aC,1,none⟩ (.int .i64 ((Xd l0 aA).f1))).setCell ⟨aC,2,none⟩ (.int .i64 ((Xd l0 aA).f2))).setCell ⟨aC,3,none⟩ (.int .i64 ((Xd l0 aA).f3))).setCell ⟨aC,4,none⟩ (.slice aG ((Xd l0 aA).f4).length aI)).setCell ⟨aC,5,none⟩ (.slice aH ((Xd l0 aA).f5).length aJ)).heap[aC]?=some (.cells #[.int .i64 ((Xd l0 aA).f0),.int .i64 ((Xd l0 aA).f1),.int .i64 ((Xd l0 aA).f2),.int .i64 ((Xd l0 aA).f3),.slice aG ((Xd l0 aA).f4).length aI,.slice aH ((Xd l0 aA).f5).length aJ] 69 (0,0))):=⟨by refine bb_ (Zm (cs:=#[.int .i64 ((Xd l0 aA).f0),.int .i64 ((Xd l0 aA).f1),.int .i64 ((Xd l0 aA).f2),.int .i64 ((Xd l0 aA).f3),.slice aG ((Xd l0 aA).f4).length aI,.slice none 0 0]) ?_ 5 _ rfl);refine bb_ (Zm (cs:=#[.int .i64 ((Xd l0 aA).f0),.int .i64 ((Xd l0 aA).f1),.int .i64 ((Xd l0 aA).f2),.int .i64 ((Xd l0 aA).f3),.slice none 0 0,.slice none 0 0]) ?_ 4 _ rfl);refine bb_ (Zm (cs:=#[.int .i64 ((Xd l0 aA).f0),.int .i64 ((Xd l0 aA).f1),.int .i64 ((Xd l0 aA).f2),.int .i64 0,.slice none 0 0,.slice none 0 0]) ?_ 3 _ rfl);refine bb_ (Zm (cs:=#[.int .i64 ((Xd l0 aA).f0),.int .i64 ((Xd l0 aA).f1),.int .i64 0,.int .i64 0,.slice none 0 0,.slice none 0 0]) ?_ 2 _ rfl);refine bb_ (Zm (cs:=#[.int .i64 ((Xd l0 aA).f0),.int .i64 0,.int .i64 0,.int .i64 0,.slice none 0 0,.slice none 0 0]) ?_ 1 _ rfl);refine bb_ (Zm (cs:=#[.int .i64 0,.int .i64 0,.int .i64 0,.int .i64 0,.slice none 0 0,.slice none 0 0]) ?_ 0 _ rfl);(with_reducible repeat (first|refine Yg ?_ _|refine Yc ?_|refine Ye ?_ _));exact aD.out⟩;have dV:Xa (Below w.heap.size w ((((((w8.setCell ⟨aC,0,none⟩ (.int .i64 ((Xd l0 aA).f0))).setCell ⟨aC,1,none⟩ (.int .i64 ((Xd l0 aA).f1))).setCell ⟨aC,2,none⟩ (.int .i64 ((Xd l0 aA).f2))).setCell ⟨aC,3,none⟩ (.int .i64 ((Xd l0 aA).f3))).setCell ⟨aC,4,none⟩ (.slice aG ((Xd l0 aA).f4).length aI)).setCell ⟨aC,5,none⟩ (.slice aH ((Xd l0 aA).f5).length aJ))):=⟨bl_ HB⟩
       (try clear aN)
       (try clear aD)
       (try clear HB)
       generalize ((((((w8.setCell ⟨aC,0,none⟩ (.int .i64 ((Xd l0 aA).f0))).setCell ⟨aC,1,none⟩ (.int .i64 ((Xd l0 aA).f1))).setCell ⟨aC,2,none⟩ (.int .i64 ((Xd l0 aA).f2))).setCell ⟨aC,3,none⟩ (.int .i64 ((Xd l0 aA).f3))).setCell ⟨aC,4,none⟩ (.slice aG ((Xd l0 aA).f4).length aI)).setCell ⟨aC,5,none⟩ (.slice aH ((Xd l0 aA).f5).length aJ))=fM at dS dU dV ⊢
       have aN:=dS;have aD:=dU;have HB:=dV;clear dS dU dV;replace aN:=Xa.mk (Kd.R_drew aN.out);replace aD:=Xa.mk (Yc aD.out);replace HB:=Xa.mk (below_drew1 HB.out);refine start_ (n:=10) (S:=fun w'=>w'.cell? ⟨aC,0,none⟩=some (.int .i64 ((Xd l0 aA).f0))∧w'.cell? ⟨aC,1,none⟩=some (.int .i64 ((Xd l0 aA).f1))∧w'.cell? ⟨aC,2,none⟩=some (.int .i64 ((Xd l0 aA).f2))∧w'.cell? ⟨aC,3,none⟩=some (.int .i64 ((Xd l0 aA).f3))∧w'.cell? ⟨aC,4,none⟩=some (.slice aG ((Xd l0 aA).f4).length aI)∧w'.cell? ⟨aC,5,none⟩=some (.slice aH ((Xd l0 aA).f5).length aJ)) (ds:=[7,9]) #[false,false,false,false,false,false,false,false,false,false] (by kernel_rfl) rfl rfl ⟨(Xm aD.out 0).trans rfl,(Xm aD.out 1).trans rfl,(Xm aD.out 2).trans rfl,(Xm aD.out 3).trans rfl,(Xm aD.out 4).trans rfl,(Xm aD.out 5).trans rfl⟩ (fun hHeld=>?_);refine with_tabW Ya.tab5 Ya.bits5 (fun bV fJ=>?_)
       generalize fM.drew=w11 at aN aD HB hHeld ⊢
       refine Xp (i:=0) (N:=some 12) (v:=?_) (a':=?_) #[true,false,false,false,false,false,false,false,false,false] rfl rfl (Zn bV.out (by kernel_rfl)) (fun _ _ _ h=>h) (Or.inl ⟨by rfl,?_⟩) ?_ ?_
       rotate_left
       · exact wr_
       rotate_left
       · exact ap_
       refine Xp (i:=3) (N:=some 15) (v:=?_) (a':=?_) #[true,false,false,true,false,false,false,false,false,false] rfl rfl (Zn bV.out (by kernel_rfl)) (fun _ _ _ h=>h) (Or.inl ⟨by rfl,?_⟩) ?_ ?_
       rotate_left
       · exact wr_
       rotate_left
       · exact ap_
       refine Zp (i:=1) (N:=some 13) (v:=?_) (a':=?_) #[true,true,false,true,false,false,false,false,false,false] rfl rfl (take_ofW bV.out fJ.out (by kernel_rfl)) (fun _ _ _ h=>h) (Or.inl ⟨by rfl,?_⟩) hHeld ?_ ?_
       rotate_left
       ·rintro w' ⟨s0,s1,s2,s3,s4,s5⟩
        go_simp
        with_reducible rfl
       rotate_left
       · exact ap_
       refine Zp (i:=4) (N:=some 16) (v:=?_) (a':=?_) #[true,true,false,true,true,false,false,false,false,false] rfl rfl (take_ofW bV.out fJ.out (by kernel_rfl)) (fun _ _ _ h=>h) (Or.inl ⟨by rfl,?_⟩) hHeld ?_ ?_
       rotate_left
       ·rintro w' ⟨s0,s1,s2,s3,s4,s5⟩
        go_simp
        with_reducible rfl
       rotate_left
       · exact ap_
       refine one_ (i:=2) (N:=some 14) #[true,true,true,true,true,false,false,false,false,false] rfl rfl (one_of bV.out (by kernel_rfl)) (by decide) (fun K hK=>?_)
       refine goes_ Try.func41 (by kernel_rfl) rfl #[.slice aG ((Xd l0 aA).f4).length aI] (by rfl) rfl rfl ga_ ?_
       with_reducible refine (ih k1 (by have:=eP.out;omega) _ _ ((Xd l0 aA).f4) aK _ ?side1 ?side2 A5.out).mono ?_
       (case side1=>exact Kd.ca_ (Kd.Xr cK.out HB.out))
       (case side2=>exact bZ.out)
       rintro e w12 ⟨v111,rfl,ho0,hb⟩
       refine ⟨_,rfl,?_⟩
       have aW:=Xa.mk (Kd.Yy (Kd.R_newB (Kd.R_new' ho0 (Kd.Uf (Kd.ra_ (aN.out)))) (g:=aC) (o:=.cells #[.int .i64 ((Xd l0 aA).f0),.int .i64 ((Xd l0 aA).f1),.int .i64 ((Xd l0 aA).f2),.int .i64 ((Xd l0 aA).f3),.slice aG ((Xd l0 aA).f4).length aI,.slice aH ((Xd l0 aA).f5).length aJ] 69 (0,0)) (ba_ aD)) (Xf (bl_ HB)));replace aN:=Xa.mk (Kd.R_elder' (Kd.ra_ (aN.out)) (Kd.Yt ho0) hb);replace aD:=Xa.mk (Xt (g:=aC) (o:=.cells #[.int .i64 ((Xd l0 aA).f0),.int .i64 ((Xd l0 aA).f1),.int .i64 ((Xd l0 aA).f2),.int .i64 ((Xd l0 aA).f3),.slice aG ((Xd l0 aA).f4).length aI,.slice aH ((Xd l0 aA).f5).length aJ] 69 (0,0)) (ba_ aD) hb);replace HB:=Xa.mk (Xe (bl_ HB) hb)
       clear hb
       skip
       skip
       skip
       clear ho0
       refine hK.out _ _ ⟨(Xm aD.out 0).trans rfl,(Xm aD.out 1).trans rfl,(Xm aD.out 2).trans rfl,(Xm aD.out 3).trans rfl,(Xm aD.out 4).trans rfl,(Xm aD.out 5).trans rfl⟩ (fun hHeld=>?_)
       clear hK K;refine Zj (a':=?_) ?_ ?_
       rotate_left
       ·show Act.put _ (some 14) _=_
        simp only [Act.put,List.setIfInBounds_toArray,List.set_cons_zero,List.set_cons_succ,Zc,Zb];rfl
       refine Xp (i:=6) (N:=some 18) (v:=?_) (a':=?_) #[true,true,true,true,true,false,true,false,false,false] rfl rfl (Zn bV.out (by kernel_rfl)) (fun _ _ _ h=>h) (Or.inl ⟨by rfl,?_⟩) ?_ ?_
       rotate_left
       · exact wr_
       rotate_left
       · exact ap_
       refine one_ (i:=5) (N:=some 17) #[true,true,true,true,true,true,true,false,false,false] rfl rfl (one_of bV.out (by kernel_rfl)) (by decide) (fun K hK=>?_)
       refine goes_ Try.func41 (by kernel_rfl) rfl #[.slice aH ((Xd l0 aA).f5).length aJ] (by rfl) rfl rfl ga_ ?_
       with_reducible refine (ih k1 (by have:=eP.out;omega) _ _ ((Xd l0 aA).f5) aM _ ?side1 ?side2 A6.out).mono ?_
       (case side1=>exact Kd.ca_ (Kd.Xr cO.out HB.out))
       (case side2=>exact cB.out)
       rintro e dF ⟨v114,rfl,ho0,hb⟩
       refine ⟨_,rfl,?_⟩
       have bB:=Xa.mk (Kd.Yy (Kd.R_newB (Kd.R_new' (Kd.R_new' ho0 (Kd.Uf (Kd.ra_ (aN.out)))) (Kd.Uf (Kd.ra_ (aW.out)))) (g:=aC) (o:=.cells #[.int .i64 ((Xd l0 aA).f0),.int .i64 ((Xd l0 aA).f1),.int .i64 ((Xd l0 aA).f2),.int .i64 ((Xd l0 aA).f3),.slice aG ((Xd l0 aA).f4).length aI,.slice aH ((Xd l0 aA).f5).length aJ] 69 (0,0)) (ba_ aD)) (Xf (bl_ HB)));replace aN:=Xa.mk (Kd.R_elder' (Kd.ra_ (aN.out)) (Kd.Yt ho0) hb);replace aW:=Xa.mk (Kd.R_elder' (Kd.ra_ (aW.out)) (Kd.Yt ho0) hb);replace aD:=Xa.mk (Xt (g:=aC) (o:=.cells #[.int .i64 ((Xd l0 aA).f0),.int .i64 ((Xd l0 aA).f1),.int .i64 ((Xd l0 aA).f2),.int .i64 ((Xd l0 aA).f3),.slice aG ((Xd l0 aA).f4).length aI,.slice aH ((Xd l0 aA).f5).length aJ] 69 (0,0)) (ba_ aD) hb);replace HB:=Xa.mk (Xe (bl_ HB) hb)
       clear hb
       skip
       skip
       skip
       clear ho0
       obtain ⟨aQ,aR,eD⟩:=Kd.Yq aW.out
       (first|subst eD|(injection eD with eG eZ eH;have fA:=eG.symm;have fB:=eH.symm;clear eG eZ eH;subst fA;subst fB))
       obtain ⟨aT,aV,eF⟩:=Kd.Yq bB.out
       (first|subst eF|(injection eF with eG eZ eH;have fA:=eG.symm;have fB:=eH.symm;clear eG eZ eH;subst fA;subst fB))
       refine hK.out _ _ ⟨(Xm aD.out 0).trans rfl,(Xm aD.out 1).trans rfl,(Xm aD.out 2).trans rfl,(Xm aD.out 3).trans rfl,(Xm aD.out 4).trans rfl,(Xm aD.out 5).trans rfl⟩ (fun hHeld=>?_)
       clear hK K;refine Zj (a':=?_) ?_ ?_
       rotate_left
       ·show Act.put _ (some 17) _=_
        simp only [Act.put,List.setIfInBounds_toArray,List.set_cons_zero,List.set_cons_succ,Zc,Zb];rfl
       refine last_ (i:=7) (N:=none) #[true,true,true,true,true,true,true,true,false,false] rfl rfl (one_of bV.out (by kernel_rfl)) (by decide) (fun K hK=>?_)
       have hs15:dF.cell? ⟨aC,4,none⟩=some (.slice aG ((Xd l0 aA).f4).length aI):=(Xm aD.out 4).trans rfl;have hfs15:=Xb aD.out 4;refine skip_ (w1:=?_) (by rfl) rfl ?_ ?_
       rotate_left
       ·go_simp
        rfl
       refine hK.out _ _ ?_
       clear hK K;refine Xp (i:=8) (N:=some 19) (v:=?_) (a':=?_) #[true,true,true,true,true,true,true,true,true,false] rfl rfl (Zn bV.out (by kernel_rfl)) (fun _ _ _ h=>h) (Or.inl ⟨by rfl,?_⟩) ?_ ?_
       rotate_left
       · exact wr_
       rotate_left
       · exact ap_
       refine last_ (i:=9) (N:=none) #[true,true,true,true,true,true,true,true,true,true] rfl rfl (one_of bV.out (by kernel_rfl)) (by decide) (fun K hK=>?_)
       have hs17:dF.cell? ⟨aC,5,none⟩=some (.slice aH ((Xd l0 aA).f5).length aJ):=(Xm aD.out 5).trans rfl;have hfs17:=Xb aD.out 5;refine skip_ (w1:=?_) (by rfl) rfl ?_ ?_
       rotate_left
       ·go_simp
        rfl
       refine hK.out _ _ ?_
       clear hK K;refine done_ (done_of bV.out (by kernel_rfl)) ?_
       have dS:Xa (Kd.R k69 69 ((dF.setCell ⟨aC,4,none⟩ (.slice aQ aK.length aR)).setCell ⟨aC,5,none⟩ (.slice aT aM.length aV)) w.heap.size (fun k_=>some k_≠(.slice aQ aK.length aR:Value).ownBlock∧some k_≠(.slice aT aM.length aV:Value).ownBlock∧k_≠aC) u3 bA):=⟨Kd.ra_ (Kd.Yw (Kd.R_far (p:=⟨aC,5,none⟩) (Kd.R_far (p:=⟨aC,4,none⟩) (Kd.Yw aN.out (fun k_ hk=>(⟨hk,hk.1.1⟩:_∧k_≠aC))) (fun _ hk=>hk.2) (.slice aQ aK.length aR)) (fun _ hk=>hk.2) (.slice aT aM.length aV)) (fun _ hk=>⟨hk.1.1.2,⟨hk.1.2,hk.1.1.1⟩⟩))⟩;have dU:Xa (Kd.R k69 69 ((dF.setCell ⟨aC,4,none⟩ (.slice aQ aK.length aR)).setCell ⟨aC,5,none⟩ (.slice aT aM.length aV)) w.heap.size (fun k_=>some k_≠(u3:Value).ownBlock∧some k_≠(.slice aT aM.length aV:Value).ownBlock∧k_≠aC) (.slice aQ aK.length aR) aK):=⟨Kd.ra_ (Kd.Yw (Kd.R_far (p:=⟨aC,5,none⟩) (Kd.R_far (p:=⟨aC,4,none⟩) (Kd.Yw aW.out (fun k_ hk=>(⟨hk,hk.1.2⟩:_∧k_≠aC))) (fun _ hk=>hk.2) (.slice aQ aK.length aR)) (fun _ hk=>hk.2) (.slice aT aM.length aV)) (fun _ hk=>⟨hk.1.1.1.2,⟨hk.1.2,hk.1.1.2⟩⟩))⟩;have dV:Xa (Kd.R k69 69 ((dF.setCell ⟨aC,4,none⟩ (.slice aQ aK.length aR)).setCell ⟨aC,5,none⟩ (.slice aT aM.length aV)) w.heap.size (fun k_=>some k_≠(u3:Value).ownBlock∧some k_≠(.slice aQ aK.length aR:Value).ownBlock∧k_≠aC) (.slice aT aM.length aV) aM):=⟨Kd.ra_ (Kd.Yw (Kd.R_far (p:=⟨aC,5,none⟩) (Kd.R_far (p:=⟨aC,4,none⟩) (Kd.Yw bB.out (fun k_ hk=>(⟨hk,hk.2⟩:_∧k_≠aC))) (fun _ hk=>hk.2) (.slice aQ aK.length aR)) (fun _ hk=>hk.2) (.slice aT aM.length aV)) (fun _ hk=>⟨hk.1.1.1.2,⟨hk.1.1.2,hk.1.2⟩⟩))⟩;have fD:Xa (((dF.setCell ⟨aC,4,none⟩ (.slice aQ aK.length aR)).setCell ⟨aC,5,none⟩ (.slice aT aM.length aV)).heap[aC]?=some (.cells #[.int .i64 ((Xd l0 aA).f0),.int .i64 ((Xd l0 aA).f1),.int .i64 ((Xd l0 aA).f2),.int .i64 ((Xd l0 aA).f3),.slice aQ aK.length aR,.slice aT aM.length aV] 69 (0,0))):=⟨by refine bb_ (Zm (cs:=#[.int .i64 ((Xd l0 aA).f0),.int .i64 ((Xd l0 aA).f1),.int .i64 ((Xd l0 aA).f2),.int .i64 ((Xd l0 aA).f3),.slice aQ aK.length aR,.slice aH ((Xd l0 aA).f5).length aJ]) ?_ 5 _ rfl);refine bb_ (Zm (cs:=#[.int .i64 ((Xd l0 aA).f0),.int .i64 ((Xd l0 aA).f1),.int .i64 ((Xd l0 aA).f2),.int .i64 ((Xd l0 aA).f3),.slice aG ((Xd l0 aA).f4).length aI,.slice aH ((Xd l0 aA).f5).length aJ]) ?_ 4 _ rfl);(with_reducible repeat (first|refine Yg ?_ _|refine Yc ?_|refine Ye ?_ _));exact aD.out⟩;have fE:Xa (Below w.heap.size w ((dF.setCell ⟨aC,4,none⟩ (.slice aQ aK.length aR)).setCell ⟨aC,5,none⟩ (.slice aT aM.length aV))):=⟨bl_ HB⟩
       clear aN
       clear aW
       clear bB
       clear aD
       clear HB
       generalize ((dF.setCell ⟨aC,4,none⟩ (.slice aQ aK.length aR)).setCell ⟨aC,5,none⟩ (.slice aT aM.length aV))=w18 at dS dU dV fD fE ⊢
       have aN:=dS;have aW:=dU;have bB:=dV;have aD:=fD;have HB:=fE;clear dS dU dV fD fE;obtain ⟨hcz19_0,hcz19_1,hcz19_2,hcz19_3,hcz19_4,hcz19_5⟩:=Zt aD.out;obtain ⟨hfz19_0,hfz19_1,hfz19_2,hfz19_3,hfz19_4,hfz19_5⟩:=Zu aD.out
       try go_wp2_with (first|((with_reducible refine gate_builtin (b:=.append) (xs:=#[.tmp 20,.tmp 22]) rfl ?_);at_builtin;refine Kd.R_append k69 (w0:=w) w.heap.size rfl (.tmp 20) (.tmp 22) 50 69 (.agg #[(.int .i64 0),(.int .i64 0),(.int .i64 0),(.int .i64 0),(.slice none 0 0),(.slice none 0 0)]) 80 rfl Try.underlying50 info69 rfl (by decide) (by omega) u3 bA (⟨(Xd l0 aA).f0,(Xd l0 aA).f1,(Xd l0 aA).f2,(Xd l0 aA).f3,aK,aM⟩:S69) [.int .i64 ((Xd l0 aA).f0),.int .i64 ((Xd l0 aA).f1),.int .i64 ((Xd l0 aA).f2),.int .i64 ((Xd l0 aA).f3),.slice aQ aK.length aR,.slice aT aM.length aV] (fun k_=>k_≠aC) (fun k_=>((fun k_=>k_≠aC)) k_∧some k_≠(u3:Value).ownBlock) rfl rfl ?aP (fun _ hk=>hk) ?aF ?aO ?aB ?aS ?aL ?_;(case aP=>exact k69_mkM _ _ _ (⟨(Xd l0 aA).f0,(Xd l0 aA).f1,(Xd l0 aA).f2,(Xd l0 aA).f3,aK,aM⟩:S69) (Kd.Yw (aW.out) (fun k_ hk=>⟨hk.2.2,hk.1⟩)) (Kd.Yw (bB.out) (fun k_ hk=>⟨hk.2.2,hk.1⟩)));(case aB=>exact (bl_ HB));(case aF=>exact (fun k_ hk=>Kd.freshB (g:=aC) (o:=.cells #[.int .i64 ((Xd l0 aA).f0),.int .i64 ((Xd l0 aA).f1),.int .i64 ((Xd l0 aA).f2),.int .i64 ((Xd l0 aA).f3),.slice aQ aK.length aR,.slice aT aM.length aV] 69 (0,0)) (ba_ aD) k_ hk));(case aO=>exact (Kd.ra_ (Kd.Yw aN.out (fun _ hk=>hk.2.2))));(case aS=>exact (Xf (bl_ HB)));(case aL=>have:=eQ.out;omega);intro v117 w20 ho hb hg hat;rw [← dZ.out] at ho;replace aD:=Xa.mk (blk_grown (g:=aC) (o:=.cells #[.int .i64 ((Xd l0 aA).f0),.int .i64 ((Xd l0 aA).f1),.int .i64 ((Xd l0 aA).f2),.int .i64 ((Xd l0 aA).f3),.slice aQ aK.length aR,.slice aT aM.length aV] 69 (0,0)) (ba_ aD) hg (Kd.R_away aN.out (fun _ hk=>hk.2.2)));replace HB:=Xa.mk (hb);have dY:=Xa.mk (ho);clear aN aW bB ho hb hg hat))
       go_roundg k1
       case measure=>have:=eP.out;omega
       case rel=>exact ⟨(eO),(wrap64 (aA+1)),rg_,H',⟨by have:=eP.out;omega⟩,⟨Kd.ra_ (Kd.Yw dY.out (fun _ hk=>trivial))⟩,⟨bl_ HB⟩⟩
      ·rw [if_neg c7] at H;exact absurd H (by simp)
     ·rw [if_neg c4] at H;exact absurd H (by simp)
    ·rw [if_neg c3] at H;exact absurd H (by simp)
   ·rw [if_neg c2] at H;have bE:=decide_eq_false c2;clear c2;obtain rfl:=Option.some.inj H;go_wp2
    go_ret
    exact ⟨_,rf_,Kd.ra_ (aN.out),bl_ HB⟩
def impl_fits.f (a0:Int) (a1:Int):Option (Bool):=if a0=0 then (some true) else (if a0 > 0 then (some (decide (a0<a1))) else (some false))
theorem impl_fits.calls (a0:Int) (a1:Int) (r:Bool) (w:World) (h:impl_fits.f a0 a1=some r) :
  Calls Try.prog 82 #[.int .i64 a0,.int .i64 a1] w fun e w'=>e=.returned (.bool r)∧Yl w w':=by
 have H:(if a0=0 then (some true) else (if a0 > 0 then (some (decide (a0<a1))) else (some false)))=some r:=h;clear h;by_cases c3:a0=0
 ·rw [if_pos c3] at H;have d9:=beq_iff_eq.mpr c3;have eU:=bne_eq_false_iff_eq.mpr c3;clear c3;obtain rfl:=Option.some.inj H
  go_enter Try.func82,Try.ntmps82
  go_wp2
  go_ret
  exact ⟨by first|rfl|(simp;done)|(simp [*];done),by repeat (first|exact Yl.refl _|apply Yl.step)⟩
 ·rw [if_neg c3] at H;have d9:=beq_eq_false_iff_ne.mpr c3;have eU:=bne_iff_ne.mpr c3;by_cases c4:a0 > 0
  ·rw [if_pos c4] at H;have eB:=decide_eq_true c4;clear c4;obtain rfl:=Option.some.inj H
   go_enter Try.func82,Try.ntmps82
   go_wp2
   go_ret
   exact ⟨by first|rfl|(simp;done)|(simp [*];done),by repeat (first|exact Yl.refl _|apply Yl.step)⟩
  ·rw [if_neg c4] at H;have eB:=decide_eq_false c4;clear c4;obtain rfl:=Option.some.inj H
   go_enter Try.func82,Try.ntmps82
   go_wp2
   go_ret
   exact ⟨by first|rfl|(simp;done)|(simp [*];done),by repeat (first|exact Yl.refl _|apply Yl.step)⟩
def impl_NumOk.f (a0:Int):Option (Bool):=if a0 ≥ (-999) then (some (decide (a0≤999))) else (some false)
theorem impl_NumOk.calls (a0:Int) (r:Bool) (w:World) (h:impl_NumOk.f a0=some r) :
  Calls Try.prog 84 #[.int .i64 a0] w fun e w'=>e=.returned (.bool r)∧Yl w w':=by
 have H:(if a0 ≥ (-999) then (some (decide (a0≤999))) else (some false))=some r:=h;clear h;by_cases c2:a0 ≥ (-999)
 ·rw [if_pos c2] at H;have bE:=decide_eq_true c2;clear c2;obtain rfl:=Option.some.inj H
  go_enter Try.func84,Try.ntmps84
  go_wp2
  go_ret
  exact ⟨by first|rfl|(simp;done)|(simp [*];done),by repeat (first|exact Yl.refl _|apply Yl.step)⟩
 ·rw [if_neg c2] at H;have bE:=decide_eq_false c2;clear c2;obtain rfl:=Option.some.inj H
  go_enter Try.func84,Try.ntmps84
  go_wp2
  go_ret
  exact ⟨by first|rfl|(simp;done)|(simp [*];done),by repeat (first|exact Yl.refl _|apply Yl.step)⟩
def impl_isOp.f (a0:Int):Option (Bool):=if a0 ≥ 1 then (some (decide (a0≤5))) else (some false)
theorem impl_isOp.calls (a0:Int) (r:Bool) (w:World) (h:impl_isOp.f a0=some r) :
  Calls Try.prog 85 #[.int .i64 a0] w fun e w'=>e=.returned (.bool r)∧Yl w w':=by
 have H:(if a0 ≥ 1 then (some (decide (a0≤5))) else (some false))=some r:=h;clear h;by_cases c2:a0 ≥ 1
 ·rw [if_pos c2] at H;have bE:=decide_eq_true c2;clear c2;obtain rfl:=Option.some.inj H
  go_enter Try.func85,Try.ntmps85
  go_wp2
  go_ret
  exact ⟨by first|rfl|(simp;done)|(simp [*];done),by repeat (first|exact Yl.refl _|apply Yl.step)⟩
 ·rw [if_neg c2] at H;have bE:=decide_eq_false c2;clear c2;obtain rfl:=Option.some.inj H
  go_enter Try.func85,Try.ntmps85
  go_wp2
  go_ret
  exact ⟨by first|rfl|(simp;done)|(simp [*];done),by repeat (first|exact Yl.refl _|apply Yl.step)⟩
def impl_Stmt_numberOk.f (aZ:Int) (bP:Int) (bQ:Int) (aU:Int) (bC:List (S69)) (bD:List (S69)):Option (Bool):=if aZ=1 then ((impl_NumOk.f aU).bind fun bR=>(some bR)) else (if aZ=2 then ((impl_isOp.f aU).bind fun bS=>(some bS)) else (some (aU == 0)))
theorem impl_Stmt_numberOk.calls (aZ:Int) (bP:Int) (bQ:Int) (aU:Int) (bT:Option Addr) (bW:Nat) (bC:List (S69)) (bU:Option Addr) (bX:Nat) (bD:List (S69)) (r:Bool) (w:World) (dD:Kd.C k69 w bT bC.length bC) (dB:bC.length≤bW) (dE:Kd.C k69 w bU bD.length bD) (dC:bD.length≤bX) (h:impl_Stmt_numberOk.f aZ bP bQ aU bC bD=some r) :
  Calls Try.prog 83 #[.agg #[.int .i64 aZ,.int .i64 bP,.int .i64 bQ,.int .i64 aU,.slice bT bC.length bW,.slice bU bD.length bX]] w fun e w'=>e=.returned (.bool r)∧Below w.heap.size w w':=by
 have fC:=Try.underlying69;have HR0_4:=Xa.mk dD;have HC0_4:=Xa.mk dB;clear dD dB;have HR0_5:=Xa.mk dE;have HC0_5:=Xa.mk dC;clear dE dC;have HB:=Xa.mk (Below.refl w.heap.size w);have H:(if aZ=1 then ((impl_NumOk.f aU).bind fun bR=>(some bR)) else (if aZ=2 then ((impl_isOp.f aU).bind fun bS=>(some bS)) else (some (aU == 0))))=some r:=h;clear h;by_cases c2:aZ=1
 ·rw [if_pos c2] at H;have bE:=beq_iff_eq.mpr c2;have eT:=bne_eq_false_iff_eq.mpr c2;clear c2;replace H:=Option.bind_eq_some_iff.mp H;obtain ⟨bR,fF,H⟩:=H;replace H:(some bR)=some r:=H;have A3:=Xa.mk fF;clear fF;obtain rfl:=Option.some.inj H
  go_enter Try.func83,Try.ntmps83
  go_wp2_with (first|((with_reducible refine Zh (N:=1) rfl ?_);refine Zg ?hg (N:=1) ?hd (cs:=#[.int .i64 aZ,.int .i64 bP,.int .i64 bQ,.int .i64 aU,.slice bT bC.length bW,.slice bU bD.length bX]) (t:=69) ?hr ?_;(case hd|hg=>rfl);(case hr=>exact hr_);intro aY hg w4 hbox hb;have aX:=Xa.mk (hbox);have dA:=Xa.mk ((ge_ hg (Xf (bl_ HB)):w.heap.size≤aY));have cZ:=Xa.mk ((ge_ hg (Xf (bl_ HB)):w.heap.size≤aY));replace HB:=Xa.mk (Xe (bl_ HB) hb);clear hb hbox hg;obtain ⟨hcz5_0,hcz5_1,hcz5_2,hcz5_3,hcz5_4,hcz5_5⟩:=Zt aX.out;obtain ⟨hfz5_0,hfz5_1,hfz5_2,hfz5_3,hfz5_4,hfz5_5⟩:=Zu aX.out)|((with_reducible refine Xi (f:=84) rfl ?_);refine Yb (some 9) rfl rfl Try.func84 (by kernel_rfl) rfl #[.int .i64 aU] rfl ga_ ?_;(with_reducible refine (impl_NumOk.calls aU bR _ A3.out).mono ?_);rintro e w' ⟨rfl,⟨nd,rfl⟩⟩;refine ⟨_,rfl,?_⟩))
  go_ret
  exact ⟨rf_,bl_ HB⟩
 ·rw [if_neg c2] at H;have bE:=beq_eq_false_iff_ne.mpr c2;have eT:=bne_iff_ne.mpr c2;by_cases c6:aZ=2
  ·rw [if_pos c6] at H;have eX:=beq_iff_eq.mpr c6;have eY:=bne_eq_false_iff_eq.mpr c6;clear c6;replace H:=Option.bind_eq_some_iff.mp H;obtain ⟨bS,fI,H⟩:=H;replace H:(some bS)=some r:=H;have A7:=Xa.mk fI;clear fI;obtain rfl:=Option.some.inj H
   go_enter Try.func83,Try.ntmps83
   go_wp2_with (first|((with_reducible refine Zh (N:=1) rfl ?_);refine Zg ?hg (N:=1) ?hd (cs:=#[.int .i64 aZ,.int .i64 bP,.int .i64 bQ,.int .i64 aU,.slice bT bC.length bW,.slice bU bD.length bX]) (t:=69) ?hr ?_;(case hd|hg=>rfl);(case hr=>exact hr_);intro aY hg w8 hbox hb;have aX:=Xa.mk (hbox);have dA:=Xa.mk ((ge_ hg (Xf (bl_ HB)):w.heap.size≤aY));have cZ:=Xa.mk ((ge_ hg (Xf (bl_ HB)):w.heap.size≤aY));replace HB:=Xa.mk (Xe (bl_ HB) hb);clear hb hbox hg;obtain ⟨dG,dH,dI,dJ,dK,dL⟩:=Zt aX.out;obtain ⟨dM,dN,dO,dP,dQ,dR⟩:=Zu aX.out)|((with_reducible refine Xi (f:=85) rfl ?_);refine Yb (some 14) rfl rfl Try.func85 (by kernel_rfl) rfl #[.int .i64 aU] rfl ga_ ?_;(with_reducible refine (impl_isOp.calls aU bS _ A7.out).mono ?_);rintro e w' ⟨rfl,⟨nd,rfl⟩⟩;refine ⟨_,rfl,?_⟩))
   go_ret
   exact ⟨rf_,bl_ HB⟩
  ·rw [if_neg c6] at H;have eX:=beq_eq_false_iff_ne.mpr c6;have eY:=bne_iff_ne.mpr c6;obtain rfl:=Option.some.inj H
   go_enter Try.func83,Try.ntmps83
   go_wp2_with (first|((with_reducible refine Zh (N:=1) rfl ?_);refine Zg ?hg (N:=1) ?hd (cs:=#[.int .i64 aZ,.int .i64 bP,.int .i64 bQ,.int .i64 aU,.slice bT bC.length bW,.slice bU bD.length bX]) (t:=69) ?hr ?_;(case hd|hg=>rfl);(case hr=>exact hr_);intro aY hg fM hbox hb;have aX:=Xa.mk (hbox);have dA:=Xa.mk ((ge_ hg (Xf (bl_ HB)):w.heap.size≤aY));have cZ:=Xa.mk ((ge_ hg (Xf (bl_ HB)):w.heap.size≤aY));replace HB:=Xa.mk (Xe (bl_ HB) hb);clear hb hbox hg;obtain ⟨hcz11_0,hcz11_1,hcz11_2,hcz11_3,hcz11_4,hcz11_5⟩:=Zt aX.out;obtain ⟨hfz11_0,hfz11_1,hfz11_2,hfz11_3,hfz11_4,hfz11_5⟩:=Zu aX.out))
   go_ret
   exact ⟨rf_,bl_ HB⟩
end Go.Proofs.Ytlhogkfmdnpmkaa.GWhole
